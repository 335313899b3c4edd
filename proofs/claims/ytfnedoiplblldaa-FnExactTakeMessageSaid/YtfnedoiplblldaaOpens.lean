/- The laws' types, opened: what can be read is of the kind, with the bounds that reading gives. No conditions. -/
import Derived.Test.YtfnedoiplblldaaK
import Derived.Test.YtfnedoiplblldaaOpen
import Derived.KernelRfl
namespace Go.Proofs.YtfnedoiplblldaaK
open Go.RowKit Go.Proofs.YtfnedoiplblldaaSep Go.Proofs.YtfnedoiplblldaaT Go.Proofs.YtfnedoiplblldaaOpen
theorem opens_Value : Opens Try.prog 44 kl_Value Gd_Value := by
  have h : Opens Try.prog 44 (Kn.pair Kn.int Kn.int) (fun p : Int × Int => (fun q : Int => (Lit.int .i64 q).wf = true) p.1 ∧ (fun p : Int => (Lit.int .i64 p).wf = true) p.2) := by
    refine opens_struct Try.underlying44 (by kernel_rfl) ?_
    refine opensFs_cons (G := fun q : Int => (Lit.int .i64 q).wf = true) (G' := fun p : Int => (Lit.int .i64 p).wf = true) ?_ ?_ ?_ ?_
    · rfl
    · kernel_rfl
    · exact (opens_int Try.underlying3)
    refine opensFs_one ?_ ?_ ?_
    · rfl
    · kernel_rfl
    · exact (opens_int Try.underlying3)
  exact opens_iso (fun x : GValue => (x.Kind, x.N)) (fun p => ⟨p.1, p.2⟩) (fun _ => rfl) h
theorem opens_Tag : Opens Try.prog 185 kl_Tag Gd_Tag := by
  have h : Opens Try.prog 185 (Kn.pair Kn.int (Kn.pair Kn.int Kn.int)) (fun p : Int × Int × Int => (fun q : Int => (Lit.int .i64 q).wf = true) p.1 ∧ (fun p : Int × Int => (fun q : Int => (Lit.int .i64 q).wf = true) p.1 ∧ (fun p : Int => (Lit.int .i64 p).wf = true) p.2) p.2) := by
    refine opens_struct Try.underlying185 (by kernel_rfl) ?_
    refine opensFs_cons (G := fun q : Int => (Lit.int .i64 q).wf = true) (G' := fun p : Int × Int => (fun q : Int => (Lit.int .i64 q).wf = true) p.1 ∧ (fun p : Int => (Lit.int .i64 p).wf = true) p.2) ?_ ?_ ?_ ?_
    · rfl
    · kernel_rfl
    · exact (opens_int Try.underlying3)
    refine opensFs_cons (G := fun q : Int => (Lit.int .i64 q).wf = true) (G' := fun p : Int => (Lit.int .i64 p).wf = true) ?_ ?_ ?_ ?_
    · rfl
    · kernel_rfl
    · exact (opens_int Try.underlying3)
    refine opensFs_one ?_ ?_ ?_
    · rfl
    · kernel_rfl
    · exact (opens_int Try.underlying3)
  exact opens_iso (fun x : GTag => (x.Vat, x.Entity, x.Seq)) (fun p => ⟨p.1, p.2.1, p.2.2⟩) (fun _ => rfl) h
theorem opens_Sent : Opens Try.prog 187 kl_Sent Gd_Sent := by
  have h : Opens Try.prog 187 (Kn.pair Kn.int (Kn.pair Kn.string (Kn.pair (Kn.slice 44 kl_Value) (Kn.pair Kn.int kl_Tag)))) (fun p : Int × ByteArray × List GValue × Int × GTag => (fun q : Int => (Lit.int .i64 q).wf = true) p.1 ∧ (fun p : ByteArray × List GValue × Int × GTag => (fun q : ByteArray => q.size ≤ 9223372036854775807) p.1 ∧ (fun p : List GValue × Int × GTag => (fun q : List GValue => (q.length ≤ 9223372036854775807 ∧ ∀ y ∈ q, Gd_Value y)) p.1 ∧ (fun p : Int × GTag => (fun q : Int => (Lit.int .i64 q).wf = true) p.1 ∧ (fun p : GTag => Gd_Tag p) p.2) p.2) p.2) p.2) := by
    refine opens_struct Try.underlying187 (by kernel_rfl) ?_
    refine opensFs_cons (G := fun q : Int => (Lit.int .i64 q).wf = true) (G' := fun p : ByteArray × List GValue × Int × GTag => (fun q : ByteArray => q.size ≤ 9223372036854775807) p.1 ∧ (fun p : List GValue × Int × GTag => (fun q : List GValue => (q.length ≤ 9223372036854775807 ∧ ∀ y ∈ q, Gd_Value y)) p.1 ∧ (fun p : Int × GTag => (fun q : Int => (Lit.int .i64 q).wf = true) p.1 ∧ (fun p : GTag => Gd_Tag p) p.2) p.2) p.2) ?_ ?_ ?_ ?_
    · rfl
    · kernel_rfl
    · exact (opens_int Try.underlying3)
    refine opensFs_cons (G := fun q : ByteArray => q.size ≤ 9223372036854775807) (G' := fun p : List GValue × Int × GTag => (fun q : List GValue => (q.length ≤ 9223372036854775807 ∧ ∀ y ∈ q, Gd_Value y)) p.1 ∧ (fun p : Int × GTag => (fun q : Int => (Lit.int .i64 q).wf = true) p.1 ∧ (fun p : GTag => Gd_Tag p) p.2) p.2) ?_ ?_ ?_ ?_
    · rfl
    · kernel_rfl
    · exact (opens_string Try.underlying9)
    refine opensFs_cons (G := fun q : List GValue => (q.length ≤ 9223372036854775807 ∧ ∀ y ∈ q, Gd_Value y)) (G' := fun p : Int × GTag => (fun q : Int => (Lit.int .i64 q).wf = true) p.1 ∧ (fun p : GTag => Gd_Tag p) p.2) ?_ ?_ ?_ ?_
    · rfl
    · kernel_rfl
    · exact (opens_slice zValue Try.underlying42 (by kernel_rfl) opens_Value)
    refine opensFs_cons (G := fun q : Int => (Lit.int .i64 q).wf = true) (G' := fun p : GTag => Gd_Tag p) ?_ ?_ ?_ ?_
    · rfl
    · kernel_rfl
    · exact (opens_int Try.underlying3)
    refine opensFs_one ?_ ?_ ?_
    · rfl
    · kernel_rfl
    · exact opens_Tag
  exact opens_iso (fun x : GSent => (x.Target, x.Name, x.Args, x.Result, x.Tag)) (fun p => ⟨p.1, p.2.1, p.2.2.1, p.2.2.2.1, p.2.2.2.2⟩) (fun _ => rfl) h
theorem opens_Asker : Opens Try.prog 207 kl_Asker Gd_Asker := by
  have h : Opens Try.prog 207 (Kn.pair Kn.int Kn.int) (fun p : Int × Int => (fun q : Int => (Lit.int .i64 q).wf = true) p.1 ∧ (fun p : Int => (Lit.int .i64 p).wf = true) p.2) := by
    refine opens_struct Try.underlying207 (by kernel_rfl) ?_
    refine opensFs_cons (G := fun q : Int => (Lit.int .i64 q).wf = true) (G' := fun p : Int => (Lit.int .i64 p).wf = true) ?_ ?_ ?_ ?_
    · rfl
    · kernel_rfl
    · exact (opens_int Try.underlying3)
    refine opensFs_one ?_ ?_ ?_
    · rfl
    · kernel_rfl
    · exact (opens_int Try.underlying3)
  exact opens_iso (fun x : GAsker => (x.Peer, x.Question)) (fun p => ⟨p.1, p.2⟩) (fun _ => rfl) h
theorem opens_Entity : Opens Try.prog 47 kl_Entity Gd_Entity := by
  have h : Opens Try.prog 47 (Kn.pair Kn.int (Kn.pair Kn.int (Kn.pair (Kn.slice 44 kl_Value) (Kn.pair Kn.int (Kn.pair kl_Value (Kn.pair (Kn.slice 187 kl_Sent) (Kn.pair (Kn.slice 207 kl_Asker) (Kn.pair Kn.int (Kn.pair Kn.int (Kn.pair Kn.int Kn.int)))))))))) (fun p : Int × Int × List GValue × Int × GValue × List GSent × List GAsker × Int × Int × Int × Int => (fun q : Int => (Lit.int .i64 q).wf = true) p.1 ∧ (fun p : Int × List GValue × Int × GValue × List GSent × List GAsker × Int × Int × Int × Int => (fun q : Int => (Lit.int .i64 q).wf = true) p.1 ∧ (fun p : List GValue × Int × GValue × List GSent × List GAsker × Int × Int × Int × Int => (fun q : List GValue => (q.length ≤ 9223372036854775807 ∧ ∀ y ∈ q, Gd_Value y)) p.1 ∧ (fun p : Int × GValue × List GSent × List GAsker × Int × Int × Int × Int => (fun q : Int => (Lit.int .i64 q).wf = true) p.1 ∧ (fun p : GValue × List GSent × List GAsker × Int × Int × Int × Int => (fun q : GValue => Gd_Value q) p.1 ∧ (fun p : List GSent × List GAsker × Int × Int × Int × Int => (fun q : List GSent => (q.length ≤ 9223372036854775807 ∧ ∀ y ∈ q, Gd_Sent y)) p.1 ∧ (fun p : List GAsker × Int × Int × Int × Int => (fun q : List GAsker => (q.length ≤ 9223372036854775807 ∧ ∀ y ∈ q, Gd_Asker y)) p.1 ∧ (fun p : Int × Int × Int × Int => (fun q : Int => (Lit.int .i64 q).wf = true) p.1 ∧ (fun p : Int × Int × Int => (fun q : Int => (Lit.int .i64 q).wf = true) p.1 ∧ (fun p : Int × Int => (fun q : Int => (Lit.int .i64 q).wf = true) p.1 ∧ (fun p : Int => (Lit.int .i64 p).wf = true) p.2) p.2) p.2) p.2) p.2) p.2) p.2) p.2) p.2) p.2) := by
    refine opens_struct Try.underlying47 (by kernel_rfl) ?_
    refine opensFs_cons (G := fun q : Int => (Lit.int .i64 q).wf = true) (G' := fun p : Int × List GValue × Int × GValue × List GSent × List GAsker × Int × Int × Int × Int => (fun q : Int => (Lit.int .i64 q).wf = true) p.1 ∧ (fun p : List GValue × Int × GValue × List GSent × List GAsker × Int × Int × Int × Int => (fun q : List GValue => (q.length ≤ 9223372036854775807 ∧ ∀ y ∈ q, Gd_Value y)) p.1 ∧ (fun p : Int × GValue × List GSent × List GAsker × Int × Int × Int × Int => (fun q : Int => (Lit.int .i64 q).wf = true) p.1 ∧ (fun p : GValue × List GSent × List GAsker × Int × Int × Int × Int => (fun q : GValue => Gd_Value q) p.1 ∧ (fun p : List GSent × List GAsker × Int × Int × Int × Int => (fun q : List GSent => (q.length ≤ 9223372036854775807 ∧ ∀ y ∈ q, Gd_Sent y)) p.1 ∧ (fun p : List GAsker × Int × Int × Int × Int => (fun q : List GAsker => (q.length ≤ 9223372036854775807 ∧ ∀ y ∈ q, Gd_Asker y)) p.1 ∧ (fun p : Int × Int × Int × Int => (fun q : Int => (Lit.int .i64 q).wf = true) p.1 ∧ (fun p : Int × Int × Int => (fun q : Int => (Lit.int .i64 q).wf = true) p.1 ∧ (fun p : Int × Int => (fun q : Int => (Lit.int .i64 q).wf = true) p.1 ∧ (fun p : Int => (Lit.int .i64 p).wf = true) p.2) p.2) p.2) p.2) p.2) p.2) p.2) p.2) p.2) ?_ ?_ ?_ ?_
    · rfl
    · kernel_rfl
    · exact (opens_int Try.underlying3)
    refine opensFs_cons (G := fun q : Int => (Lit.int .i64 q).wf = true) (G' := fun p : List GValue × Int × GValue × List GSent × List GAsker × Int × Int × Int × Int => (fun q : List GValue => (q.length ≤ 9223372036854775807 ∧ ∀ y ∈ q, Gd_Value y)) p.1 ∧ (fun p : Int × GValue × List GSent × List GAsker × Int × Int × Int × Int => (fun q : Int => (Lit.int .i64 q).wf = true) p.1 ∧ (fun p : GValue × List GSent × List GAsker × Int × Int × Int × Int => (fun q : GValue => Gd_Value q) p.1 ∧ (fun p : List GSent × List GAsker × Int × Int × Int × Int => (fun q : List GSent => (q.length ≤ 9223372036854775807 ∧ ∀ y ∈ q, Gd_Sent y)) p.1 ∧ (fun p : List GAsker × Int × Int × Int × Int => (fun q : List GAsker => (q.length ≤ 9223372036854775807 ∧ ∀ y ∈ q, Gd_Asker y)) p.1 ∧ (fun p : Int × Int × Int × Int => (fun q : Int => (Lit.int .i64 q).wf = true) p.1 ∧ (fun p : Int × Int × Int => (fun q : Int => (Lit.int .i64 q).wf = true) p.1 ∧ (fun p : Int × Int => (fun q : Int => (Lit.int .i64 q).wf = true) p.1 ∧ (fun p : Int => (Lit.int .i64 p).wf = true) p.2) p.2) p.2) p.2) p.2) p.2) p.2) p.2) ?_ ?_ ?_ ?_
    · rfl
    · kernel_rfl
    · exact (opens_int Try.underlying3)
    refine opensFs_cons (G := fun q : List GValue => (q.length ≤ 9223372036854775807 ∧ ∀ y ∈ q, Gd_Value y)) (G' := fun p : Int × GValue × List GSent × List GAsker × Int × Int × Int × Int => (fun q : Int => (Lit.int .i64 q).wf = true) p.1 ∧ (fun p : GValue × List GSent × List GAsker × Int × Int × Int × Int => (fun q : GValue => Gd_Value q) p.1 ∧ (fun p : List GSent × List GAsker × Int × Int × Int × Int => (fun q : List GSent => (q.length ≤ 9223372036854775807 ∧ ∀ y ∈ q, Gd_Sent y)) p.1 ∧ (fun p : List GAsker × Int × Int × Int × Int => (fun q : List GAsker => (q.length ≤ 9223372036854775807 ∧ ∀ y ∈ q, Gd_Asker y)) p.1 ∧ (fun p : Int × Int × Int × Int => (fun q : Int => (Lit.int .i64 q).wf = true) p.1 ∧ (fun p : Int × Int × Int => (fun q : Int => (Lit.int .i64 q).wf = true) p.1 ∧ (fun p : Int × Int => (fun q : Int => (Lit.int .i64 q).wf = true) p.1 ∧ (fun p : Int => (Lit.int .i64 p).wf = true) p.2) p.2) p.2) p.2) p.2) p.2) p.2) ?_ ?_ ?_ ?_
    · rfl
    · kernel_rfl
    · exact (opens_slice zValue Try.underlying42 (by kernel_rfl) opens_Value)
    refine opensFs_cons (G := fun q : Int => (Lit.int .i64 q).wf = true) (G' := fun p : GValue × List GSent × List GAsker × Int × Int × Int × Int => (fun q : GValue => Gd_Value q) p.1 ∧ (fun p : List GSent × List GAsker × Int × Int × Int × Int => (fun q : List GSent => (q.length ≤ 9223372036854775807 ∧ ∀ y ∈ q, Gd_Sent y)) p.1 ∧ (fun p : List GAsker × Int × Int × Int × Int => (fun q : List GAsker => (q.length ≤ 9223372036854775807 ∧ ∀ y ∈ q, Gd_Asker y)) p.1 ∧ (fun p : Int × Int × Int × Int => (fun q : Int => (Lit.int .i64 q).wf = true) p.1 ∧ (fun p : Int × Int × Int => (fun q : Int => (Lit.int .i64 q).wf = true) p.1 ∧ (fun p : Int × Int => (fun q : Int => (Lit.int .i64 q).wf = true) p.1 ∧ (fun p : Int => (Lit.int .i64 p).wf = true) p.2) p.2) p.2) p.2) p.2) p.2) ?_ ?_ ?_ ?_
    · rfl
    · kernel_rfl
    · exact (opens_int Try.underlying3)
    refine opensFs_cons (G := fun q : GValue => Gd_Value q) (G' := fun p : List GSent × List GAsker × Int × Int × Int × Int => (fun q : List GSent => (q.length ≤ 9223372036854775807 ∧ ∀ y ∈ q, Gd_Sent y)) p.1 ∧ (fun p : List GAsker × Int × Int × Int × Int => (fun q : List GAsker => (q.length ≤ 9223372036854775807 ∧ ∀ y ∈ q, Gd_Asker y)) p.1 ∧ (fun p : Int × Int × Int × Int => (fun q : Int => (Lit.int .i64 q).wf = true) p.1 ∧ (fun p : Int × Int × Int => (fun q : Int => (Lit.int .i64 q).wf = true) p.1 ∧ (fun p : Int × Int => (fun q : Int => (Lit.int .i64 q).wf = true) p.1 ∧ (fun p : Int => (Lit.int .i64 p).wf = true) p.2) p.2) p.2) p.2) p.2) ?_ ?_ ?_ ?_
    · rfl
    · kernel_rfl
    · exact opens_Value
    refine opensFs_cons (G := fun q : List GSent => (q.length ≤ 9223372036854775807 ∧ ∀ y ∈ q, Gd_Sent y)) (G' := fun p : List GAsker × Int × Int × Int × Int => (fun q : List GAsker => (q.length ≤ 9223372036854775807 ∧ ∀ y ∈ q, Gd_Asker y)) p.1 ∧ (fun p : Int × Int × Int × Int => (fun q : Int => (Lit.int .i64 q).wf = true) p.1 ∧ (fun p : Int × Int × Int => (fun q : Int => (Lit.int .i64 q).wf = true) p.1 ∧ (fun p : Int × Int => (fun q : Int => (Lit.int .i64 q).wf = true) p.1 ∧ (fun p : Int => (Lit.int .i64 p).wf = true) p.2) p.2) p.2) p.2) ?_ ?_ ?_ ?_
    · rfl
    · kernel_rfl
    · exact (opens_slice zSent Try.underlying37 (by kernel_rfl) opens_Sent)
    refine opensFs_cons (G := fun q : List GAsker => (q.length ≤ 9223372036854775807 ∧ ∀ y ∈ q, Gd_Asker y)) (G' := fun p : Int × Int × Int × Int => (fun q : Int => (Lit.int .i64 q).wf = true) p.1 ∧ (fun p : Int × Int × Int => (fun q : Int => (Lit.int .i64 q).wf = true) p.1 ∧ (fun p : Int × Int => (fun q : Int => (Lit.int .i64 q).wf = true) p.1 ∧ (fun p : Int => (Lit.int .i64 p).wf = true) p.2) p.2) p.2) ?_ ?_ ?_ ?_
    · rfl
    · kernel_rfl
    · exact (opens_slice zAsker Try.underlying45 (by kernel_rfl) opens_Asker)
    refine opensFs_cons (G := fun q : Int => (Lit.int .i64 q).wf = true) (G' := fun p : Int × Int × Int => (fun q : Int => (Lit.int .i64 q).wf = true) p.1 ∧ (fun p : Int × Int => (fun q : Int => (Lit.int .i64 q).wf = true) p.1 ∧ (fun p : Int => (Lit.int .i64 p).wf = true) p.2) p.2) ?_ ?_ ?_ ?_
    · rfl
    · kernel_rfl
    · exact (opens_int Try.underlying3)
    refine opensFs_cons (G := fun q : Int => (Lit.int .i64 q).wf = true) (G' := fun p : Int × Int => (fun q : Int => (Lit.int .i64 q).wf = true) p.1 ∧ (fun p : Int => (Lit.int .i64 p).wf = true) p.2) ?_ ?_ ?_ ?_
    · rfl
    · kernel_rfl
    · exact (opens_int Try.underlying3)
    refine opensFs_cons (G := fun q : Int => (Lit.int .i64 q).wf = true) (G' := fun p : Int => (Lit.int .i64 p).wf = true) ?_ ?_ ?_ ?_
    · rfl
    · kernel_rfl
    · exact (opens_int Try.underlying3)
    refine opensFs_one ?_ ?_ ?_
    · rfl
    · kernel_rfl
    · exact (opens_int Try.underlying3)
  exact opens_iso (fun x : GEntity => (x.Kind, x.Script, x.Slots, x.State, x.Value, x.Queue, x.Askers, x.Peer, x.Pos, x.Count, x.Sent)) (fun p => ⟨p.1, p.2.1, p.2.2.1, p.2.2.2.1, p.2.2.2.2.1, p.2.2.2.2.2.1, p.2.2.2.2.2.2.1, p.2.2.2.2.2.2.2.1, p.2.2.2.2.2.2.2.2.1, p.2.2.2.2.2.2.2.2.2.1, p.2.2.2.2.2.2.2.2.2.2⟩) (fun _ => rfl) h
theorem opens_Export : Opens Try.prog 253 kl_Export Gd_Export := by
  have h : Opens Try.prog 253 (Kn.pair Kn.int (Kn.pair Kn.int Kn.int)) (fun p : Int × Int × Int => (fun q : Int => (Lit.int .i64 q).wf = true) p.1 ∧ (fun p : Int × Int => (fun q : Int => (Lit.int .i64 q).wf = true) p.1 ∧ (fun p : Int => (Lit.int .i64 p).wf = true) p.2) p.2) := by
    refine opens_struct Try.underlying253 (by kernel_rfl) ?_
    refine opensFs_cons (G := fun q : Int => (Lit.int .i64 q).wf = true) (G' := fun p : Int × Int => (fun q : Int => (Lit.int .i64 q).wf = true) p.1 ∧ (fun p : Int => (Lit.int .i64 p).wf = true) p.2) ?_ ?_ ?_ ?_
    · rfl
    · kernel_rfl
    · exact (opens_int Try.underlying3)
    refine opensFs_cons (G := fun q : Int => (Lit.int .i64 q).wf = true) (G' := fun p : Int => (Lit.int .i64 p).wf = true) ?_ ?_ ?_ ?_
    · rfl
    · kernel_rfl
    · exact (opens_int Try.underlying3)
    refine opensFs_one ?_ ?_ ?_
    · rfl
    · kernel_rfl
    · exact (opens_int Try.underlying3)
  exact opens_iso (fun x : GExport => (x.Pos, x.Entity, x.Count)) (fun p => ⟨p.1, p.2.1, p.2.2⟩) (fun _ => rfl) h
theorem opens_Question : Opens Try.prog 255 kl_Question Gd_Question := by
  have h : Opens Try.prog 255 (Kn.pair Kn.int Kn.int) (fun p : Int × Int => (fun q : Int => (Lit.int .i64 q).wf = true) p.1 ∧ (fun p : Int => (Lit.int .i64 p).wf = true) p.2) := by
    refine opens_struct Try.underlying255 (by kernel_rfl) ?_
    refine opensFs_cons (G := fun q : Int => (Lit.int .i64 q).wf = true) (G' := fun p : Int => (Lit.int .i64 p).wf = true) ?_ ?_ ?_ ?_
    · rfl
    · kernel_rfl
    · exact (opens_int Try.underlying3)
    refine opensFs_one ?_ ?_ ?_
    · rfl
    · kernel_rfl
    · exact (opens_int Try.underlying3)
  exact opens_iso (fun x : GQuestion => (x.Id, x.Promise)) (fun p => ⟨p.1, p.2⟩) (fun _ => rfl) h
theorem opens_Link : Opens Try.prog 192 kl_Link Gd_Link := by
  have h : Opens Try.prog 192 (Kn.pair Kn.int (Kn.pair Kn.bool (Kn.pair (Kn.slice 253 kl_Export) (Kn.pair Kn.int (Kn.pair (Kn.slice 255 kl_Question) (Kn.pair Kn.int (Kn.slice 255 kl_Question))))))) (fun p : Int × Bool × List GExport × Int × List GQuestion × Int × List GQuestion => (fun q : Int => (Lit.int .i64 q).wf = true) p.1 ∧ (fun p : Bool × List GExport × Int × List GQuestion × Int × List GQuestion => (fun q : Bool => True) p.1 ∧ (fun p : List GExport × Int × List GQuestion × Int × List GQuestion => (fun q : List GExport => (q.length ≤ 9223372036854775807 ∧ ∀ y ∈ q, Gd_Export y)) p.1 ∧ (fun p : Int × List GQuestion × Int × List GQuestion => (fun q : Int => (Lit.int .i64 q).wf = true) p.1 ∧ (fun p : List GQuestion × Int × List GQuestion => (fun q : List GQuestion => (q.length ≤ 9223372036854775807 ∧ ∀ y ∈ q, Gd_Question y)) p.1 ∧ (fun p : Int × List GQuestion => (fun q : Int => (Lit.int .i64 q).wf = true) p.1 ∧ (fun p : List GQuestion => (p.length ≤ 9223372036854775807 ∧ ∀ y ∈ p, Gd_Question y)) p.2) p.2) p.2) p.2) p.2) p.2) := by
    refine opens_struct Try.underlying192 (by kernel_rfl) ?_
    refine opensFs_cons (G := fun q : Int => (Lit.int .i64 q).wf = true) (G' := fun p : Bool × List GExport × Int × List GQuestion × Int × List GQuestion => (fun q : Bool => True) p.1 ∧ (fun p : List GExport × Int × List GQuestion × Int × List GQuestion => (fun q : List GExport => (q.length ≤ 9223372036854775807 ∧ ∀ y ∈ q, Gd_Export y)) p.1 ∧ (fun p : Int × List GQuestion × Int × List GQuestion => (fun q : Int => (Lit.int .i64 q).wf = true) p.1 ∧ (fun p : List GQuestion × Int × List GQuestion => (fun q : List GQuestion => (q.length ≤ 9223372036854775807 ∧ ∀ y ∈ q, Gd_Question y)) p.1 ∧ (fun p : Int × List GQuestion => (fun q : Int => (Lit.int .i64 q).wf = true) p.1 ∧ (fun p : List GQuestion => (p.length ≤ 9223372036854775807 ∧ ∀ y ∈ p, Gd_Question y)) p.2) p.2) p.2) p.2) p.2) ?_ ?_ ?_ ?_
    · rfl
    · kernel_rfl
    · exact (opens_int Try.underlying3)
    refine opensFs_cons (G := fun q : Bool => True) (G' := fun p : List GExport × Int × List GQuestion × Int × List GQuestion => (fun q : List GExport => (q.length ≤ 9223372036854775807 ∧ ∀ y ∈ q, Gd_Export y)) p.1 ∧ (fun p : Int × List GQuestion × Int × List GQuestion => (fun q : Int => (Lit.int .i64 q).wf = true) p.1 ∧ (fun p : List GQuestion × Int × List GQuestion => (fun q : List GQuestion => (q.length ≤ 9223372036854775807 ∧ ∀ y ∈ q, Gd_Question y)) p.1 ∧ (fun p : Int × List GQuestion => (fun q : Int => (Lit.int .i64 q).wf = true) p.1 ∧ (fun p : List GQuestion => (p.length ≤ 9223372036854775807 ∧ ∀ y ∈ p, Gd_Question y)) p.2) p.2) p.2) p.2) ?_ ?_ ?_ ?_
    · rfl
    · kernel_rfl
    · exact (opens_bool Try.underlying4)
    refine opensFs_cons (G := fun q : List GExport => (q.length ≤ 9223372036854775807 ∧ ∀ y ∈ q, Gd_Export y)) (G' := fun p : Int × List GQuestion × Int × List GQuestion => (fun q : Int => (Lit.int .i64 q).wf = true) p.1 ∧ (fun p : List GQuestion × Int × List GQuestion => (fun q : List GQuestion => (q.length ≤ 9223372036854775807 ∧ ∀ y ∈ q, Gd_Question y)) p.1 ∧ (fun p : Int × List GQuestion => (fun q : Int => (Lit.int .i64 q).wf = true) p.1 ∧ (fun p : List GQuestion => (p.length ≤ 9223372036854775807 ∧ ∀ y ∈ p, Gd_Question y)) p.2) p.2) p.2) ?_ ?_ ?_ ?_
    · rfl
    · kernel_rfl
    · exact (opens_slice zExport Try.underlying189 (by kernel_rfl) opens_Export)
    refine opensFs_cons (G := fun q : Int => (Lit.int .i64 q).wf = true) (G' := fun p : List GQuestion × Int × List GQuestion => (fun q : List GQuestion => (q.length ≤ 9223372036854775807 ∧ ∀ y ∈ q, Gd_Question y)) p.1 ∧ (fun p : Int × List GQuestion => (fun q : Int => (Lit.int .i64 q).wf = true) p.1 ∧ (fun p : List GQuestion => (p.length ≤ 9223372036854775807 ∧ ∀ y ∈ p, Gd_Question y)) p.2) p.2) ?_ ?_ ?_ ?_
    · rfl
    · kernel_rfl
    · exact (opens_int Try.underlying3)
    refine opensFs_cons (G := fun q : List GQuestion => (q.length ≤ 9223372036854775807 ∧ ∀ y ∈ q, Gd_Question y)) (G' := fun p : Int × List GQuestion => (fun q : Int => (Lit.int .i64 q).wf = true) p.1 ∧ (fun p : List GQuestion => (p.length ≤ 9223372036854775807 ∧ ∀ y ∈ p, Gd_Question y)) p.2) ?_ ?_ ?_ ?_
    · rfl
    · kernel_rfl
    · exact (opens_slice zQuestion Try.underlying190 (by kernel_rfl) opens_Question)
    refine opensFs_cons (G := fun q : Int => (Lit.int .i64 q).wf = true) (G' := fun p : List GQuestion => (p.length ≤ 9223372036854775807 ∧ ∀ y ∈ p, Gd_Question y)) ?_ ?_ ?_ ?_
    · rfl
    · kernel_rfl
    · exact (opens_int Try.underlying3)
    refine opensFs_one ?_ ?_ ?_
    · rfl
    · kernel_rfl
    · exact (opens_slice zQuestion Try.underlying190 (by kernel_rfl) opens_Question)
  exact opens_iso (fun x : GLink => (x.Peer, x.Up, x.Exports, x.Next, x.Questions, x.Asked, x.Answers)) (fun p => ⟨p.1, p.2.1, p.2.2.1, p.2.2.2.1, p.2.2.2.2.1, p.2.2.2.2.2.1, p.2.2.2.2.2.2⟩) (fun _ => rfl) h
theorem opens_Wire : Opens Try.prog 195 kl_Wire Gd_Wire := by
  have h : Opens Try.prog 195 (Kn.pair Kn.int Kn.int) (fun p : Int × Int => (fun q : Int => (Lit.int .i64 q).wf = true) p.1 ∧ (fun p : Int => (Lit.int .i64 p).wf = true) p.2) := by
    refine opens_struct Try.underlying195 (by kernel_rfl) ?_
    refine opensFs_cons (G := fun q : Int => (Lit.int .i64 q).wf = true) (G' := fun p : Int => (Lit.int .i64 p).wf = true) ?_ ?_ ?_ ?_
    · rfl
    · kernel_rfl
    · exact (opens_int Try.underlying3)
    refine opensFs_one ?_ ?_ ?_
    · rfl
    · kernel_rfl
    · exact (opens_int Try.underlying3)
  exact opens_iso (fun x : GWire => (x.Kind, x.N)) (fun p => ⟨p.1, p.2⟩) (fun _ => rfl) h
theorem opens_Message : Opens Try.prog 197 kl_Message Gd_Message := by
  have h : Opens Try.prog 197 (Kn.pair Kn.int (Kn.pair Kn.int (Kn.pair Kn.int (Kn.pair Kn.int (Kn.pair Kn.string (Kn.pair (Kn.slice 195 kl_Wire) (Kn.pair kl_Wire (Kn.pair Kn.int kl_Tag)))))))) (fun p : Int × Int × Int × Int × ByteArray × List GWire × GWire × Int × GTag => (fun q : Int => (Lit.int .i64 q).wf = true) p.1 ∧ (fun p : Int × Int × Int × ByteArray × List GWire × GWire × Int × GTag => (fun q : Int => (Lit.int .i64 q).wf = true) p.1 ∧ (fun p : Int × Int × ByteArray × List GWire × GWire × Int × GTag => (fun q : Int => (Lit.int .i64 q).wf = true) p.1 ∧ (fun p : Int × ByteArray × List GWire × GWire × Int × GTag => (fun q : Int => (Lit.int .i64 q).wf = true) p.1 ∧ (fun p : ByteArray × List GWire × GWire × Int × GTag => (fun q : ByteArray => q.size ≤ 9223372036854775807) p.1 ∧ (fun p : List GWire × GWire × Int × GTag => (fun q : List GWire => (q.length ≤ 9223372036854775807 ∧ ∀ y ∈ q, Gd_Wire y)) p.1 ∧ (fun p : GWire × Int × GTag => (fun q : GWire => Gd_Wire q) p.1 ∧ (fun p : Int × GTag => (fun q : Int => (Lit.int .i64 q).wf = true) p.1 ∧ (fun p : GTag => Gd_Tag p) p.2) p.2) p.2) p.2) p.2) p.2) p.2) p.2) := by
    refine opens_struct Try.underlying197 (by kernel_rfl) ?_
    refine opensFs_cons (G := fun q : Int => (Lit.int .i64 q).wf = true) (G' := fun p : Int × Int × Int × ByteArray × List GWire × GWire × Int × GTag => (fun q : Int => (Lit.int .i64 q).wf = true) p.1 ∧ (fun p : Int × Int × ByteArray × List GWire × GWire × Int × GTag => (fun q : Int => (Lit.int .i64 q).wf = true) p.1 ∧ (fun p : Int × ByteArray × List GWire × GWire × Int × GTag => (fun q : Int => (Lit.int .i64 q).wf = true) p.1 ∧ (fun p : ByteArray × List GWire × GWire × Int × GTag => (fun q : ByteArray => q.size ≤ 9223372036854775807) p.1 ∧ (fun p : List GWire × GWire × Int × GTag => (fun q : List GWire => (q.length ≤ 9223372036854775807 ∧ ∀ y ∈ q, Gd_Wire y)) p.1 ∧ (fun p : GWire × Int × GTag => (fun q : GWire => Gd_Wire q) p.1 ∧ (fun p : Int × GTag => (fun q : Int => (Lit.int .i64 q).wf = true) p.1 ∧ (fun p : GTag => Gd_Tag p) p.2) p.2) p.2) p.2) p.2) p.2) p.2) ?_ ?_ ?_ ?_
    · rfl
    · kernel_rfl
    · exact (opens_int Try.underlying3)
    refine opensFs_cons (G := fun q : Int => (Lit.int .i64 q).wf = true) (G' := fun p : Int × Int × ByteArray × List GWire × GWire × Int × GTag => (fun q : Int => (Lit.int .i64 q).wf = true) p.1 ∧ (fun p : Int × ByteArray × List GWire × GWire × Int × GTag => (fun q : Int => (Lit.int .i64 q).wf = true) p.1 ∧ (fun p : ByteArray × List GWire × GWire × Int × GTag => (fun q : ByteArray => q.size ≤ 9223372036854775807) p.1 ∧ (fun p : List GWire × GWire × Int × GTag => (fun q : List GWire => (q.length ≤ 9223372036854775807 ∧ ∀ y ∈ q, Gd_Wire y)) p.1 ∧ (fun p : GWire × Int × GTag => (fun q : GWire => Gd_Wire q) p.1 ∧ (fun p : Int × GTag => (fun q : Int => (Lit.int .i64 q).wf = true) p.1 ∧ (fun p : GTag => Gd_Tag p) p.2) p.2) p.2) p.2) p.2) p.2) ?_ ?_ ?_ ?_
    · rfl
    · kernel_rfl
    · exact (opens_int Try.underlying3)
    refine opensFs_cons (G := fun q : Int => (Lit.int .i64 q).wf = true) (G' := fun p : Int × ByteArray × List GWire × GWire × Int × GTag => (fun q : Int => (Lit.int .i64 q).wf = true) p.1 ∧ (fun p : ByteArray × List GWire × GWire × Int × GTag => (fun q : ByteArray => q.size ≤ 9223372036854775807) p.1 ∧ (fun p : List GWire × GWire × Int × GTag => (fun q : List GWire => (q.length ≤ 9223372036854775807 ∧ ∀ y ∈ q, Gd_Wire y)) p.1 ∧ (fun p : GWire × Int × GTag => (fun q : GWire => Gd_Wire q) p.1 ∧ (fun p : Int × GTag => (fun q : Int => (Lit.int .i64 q).wf = true) p.1 ∧ (fun p : GTag => Gd_Tag p) p.2) p.2) p.2) p.2) p.2) ?_ ?_ ?_ ?_
    · rfl
    · kernel_rfl
    · exact (opens_int Try.underlying3)
    refine opensFs_cons (G := fun q : Int => (Lit.int .i64 q).wf = true) (G' := fun p : ByteArray × List GWire × GWire × Int × GTag => (fun q : ByteArray => q.size ≤ 9223372036854775807) p.1 ∧ (fun p : List GWire × GWire × Int × GTag => (fun q : List GWire => (q.length ≤ 9223372036854775807 ∧ ∀ y ∈ q, Gd_Wire y)) p.1 ∧ (fun p : GWire × Int × GTag => (fun q : GWire => Gd_Wire q) p.1 ∧ (fun p : Int × GTag => (fun q : Int => (Lit.int .i64 q).wf = true) p.1 ∧ (fun p : GTag => Gd_Tag p) p.2) p.2) p.2) p.2) ?_ ?_ ?_ ?_
    · rfl
    · kernel_rfl
    · exact (opens_int Try.underlying3)
    refine opensFs_cons (G := fun q : ByteArray => q.size ≤ 9223372036854775807) (G' := fun p : List GWire × GWire × Int × GTag => (fun q : List GWire => (q.length ≤ 9223372036854775807 ∧ ∀ y ∈ q, Gd_Wire y)) p.1 ∧ (fun p : GWire × Int × GTag => (fun q : GWire => Gd_Wire q) p.1 ∧ (fun p : Int × GTag => (fun q : Int => (Lit.int .i64 q).wf = true) p.1 ∧ (fun p : GTag => Gd_Tag p) p.2) p.2) p.2) ?_ ?_ ?_ ?_
    · rfl
    · kernel_rfl
    · exact (opens_string Try.underlying9)
    refine opensFs_cons (G := fun q : List GWire => (q.length ≤ 9223372036854775807 ∧ ∀ y ∈ q, Gd_Wire y)) (G' := fun p : GWire × Int × GTag => (fun q : GWire => Gd_Wire q) p.1 ∧ (fun p : Int × GTag => (fun q : Int => (Lit.int .i64 q).wf = true) p.1 ∧ (fun p : GTag => Gd_Tag p) p.2) p.2) ?_ ?_ ?_ ?_
    · rfl
    · kernel_rfl
    · exact (opens_slice zWire Try.underlying194 (by kernel_rfl) opens_Wire)
    refine opensFs_cons (G := fun q : GWire => Gd_Wire q) (G' := fun p : Int × GTag => (fun q : Int => (Lit.int .i64 q).wf = true) p.1 ∧ (fun p : GTag => Gd_Tag p) p.2) ?_ ?_ ?_ ?_
    · rfl
    · kernel_rfl
    · exact opens_Wire
    refine opensFs_cons (G := fun q : Int => (Lit.int .i64 q).wf = true) (G' := fun p : GTag => Gd_Tag p) ?_ ?_ ?_ ?_
    · rfl
    · kernel_rfl
    · exact (opens_int Try.underlying3)
    refine opensFs_one ?_ ?_ ?_
    · rfl
    · kernel_rfl
    · exact opens_Tag
  exact opens_iso (fun x : GMessage => (x.Kind, x.Pos, x.Answer, x.Question, x.Name, x.Args, x.Value, x.Count, x.Tag)) (fun p => ⟨p.1, p.2.1, p.2.2.1, p.2.2.2.1, p.2.2.2.2.1, p.2.2.2.2.2.1, p.2.2.2.2.2.2.1, p.2.2.2.2.2.2.2.1, p.2.2.2.2.2.2.2.2⟩) (fun _ => rfl) h
theorem opens_Outgoing : Opens Try.prog 199 kl_Outgoing Gd_Outgoing := by
  have h : Opens Try.prog 199 (Kn.pair Kn.int kl_Message) (fun p : Int × GMessage => (fun q : Int => (Lit.int .i64 q).wf = true) p.1 ∧ (fun p : GMessage => Gd_Message p) p.2) := by
    refine opens_struct Try.underlying199 (by kernel_rfl) ?_
    refine opensFs_cons (G := fun q : Int => (Lit.int .i64 q).wf = true) (G' := fun p : GMessage => Gd_Message p) ?_ ?_ ?_ ?_
    · rfl
    · kernel_rfl
    · exact (opens_int Try.underlying3)
    refine opensFs_one ?_ ?_ ?_
    · rfl
    · kernel_rfl
    · exact opens_Message
  exact opens_iso (fun x : GOutgoing => (x.To, x.Message)) (fun p => ⟨p.1, p.2⟩) (fun _ => rfl) h
theorem opens_Vat : Opens Try.prog 41 kl_Vat Gd_Vat := by
  have h : Opens Try.prog 41 (Kn.pair Kn.int (Kn.pair (Kn.slice 47 kl_Entity) (Kn.pair (Kn.slice 187 kl_Sent) (Kn.pair (Kn.slice 192 kl_Link) (Kn.slice 199 kl_Outgoing))))) (fun p : Int × List GEntity × List GSent × List GLink × List GOutgoing => (fun q : Int => (Lit.int .i64 q).wf = true) p.1 ∧ (fun p : List GEntity × List GSent × List GLink × List GOutgoing => (fun q : List GEntity => (q.length ≤ 9223372036854775807 ∧ ∀ y ∈ q, Gd_Entity y)) p.1 ∧ (fun p : List GSent × List GLink × List GOutgoing => (fun q : List GSent => (q.length ≤ 9223372036854775807 ∧ ∀ y ∈ q, Gd_Sent y)) p.1 ∧ (fun p : List GLink × List GOutgoing => (fun q : List GLink => (q.length ≤ 9223372036854775807 ∧ ∀ y ∈ q, Gd_Link y)) p.1 ∧ (fun p : List GOutgoing => (p.length ≤ 9223372036854775807 ∧ ∀ y ∈ p, Gd_Outgoing y)) p.2) p.2) p.2) p.2) := by
    refine opens_struct Try.underlying41 (by kernel_rfl) ?_
    refine opensFs_cons (G := fun q : Int => (Lit.int .i64 q).wf = true) (G' := fun p : List GEntity × List GSent × List GLink × List GOutgoing => (fun q : List GEntity => (q.length ≤ 9223372036854775807 ∧ ∀ y ∈ q, Gd_Entity y)) p.1 ∧ (fun p : List GSent × List GLink × List GOutgoing => (fun q : List GSent => (q.length ≤ 9223372036854775807 ∧ ∀ y ∈ q, Gd_Sent y)) p.1 ∧ (fun p : List GLink × List GOutgoing => (fun q : List GLink => (q.length ≤ 9223372036854775807 ∧ ∀ y ∈ q, Gd_Link y)) p.1 ∧ (fun p : List GOutgoing => (p.length ≤ 9223372036854775807 ∧ ∀ y ∈ p, Gd_Outgoing y)) p.2) p.2) p.2) ?_ ?_ ?_ ?_
    · rfl
    · kernel_rfl
    · exact (opens_int Try.underlying3)
    refine opensFs_cons (G := fun q : List GEntity => (q.length ≤ 9223372036854775807 ∧ ∀ y ∈ q, Gd_Entity y)) (G' := fun p : List GSent × List GLink × List GOutgoing => (fun q : List GSent => (q.length ≤ 9223372036854775807 ∧ ∀ y ∈ q, Gd_Sent y)) p.1 ∧ (fun p : List GLink × List GOutgoing => (fun q : List GLink => (q.length ≤ 9223372036854775807 ∧ ∀ y ∈ q, Gd_Link y)) p.1 ∧ (fun p : List GOutgoing => (p.length ≤ 9223372036854775807 ∧ ∀ y ∈ p, Gd_Outgoing y)) p.2) p.2) ?_ ?_ ?_ ?_
    · rfl
    · kernel_rfl
    · exact (opens_slice zEntity Try.underlying36 (by kernel_rfl) opens_Entity)
    refine opensFs_cons (G := fun q : List GSent => (q.length ≤ 9223372036854775807 ∧ ∀ y ∈ q, Gd_Sent y)) (G' := fun p : List GLink × List GOutgoing => (fun q : List GLink => (q.length ≤ 9223372036854775807 ∧ ∀ y ∈ q, Gd_Link y)) p.1 ∧ (fun p : List GOutgoing => (p.length ≤ 9223372036854775807 ∧ ∀ y ∈ p, Gd_Outgoing y)) p.2) ?_ ?_ ?_ ?_
    · rfl
    · kernel_rfl
    · exact (opens_slice zSent Try.underlying37 (by kernel_rfl) opens_Sent)
    refine opensFs_cons (G := fun q : List GLink => (q.length ≤ 9223372036854775807 ∧ ∀ y ∈ q, Gd_Link y)) (G' := fun p : List GOutgoing => (p.length ≤ 9223372036854775807 ∧ ∀ y ∈ p, Gd_Outgoing y)) ?_ ?_ ?_ ?_
    · rfl
    · kernel_rfl
    · exact (opens_slice zLink Try.underlying38 (by kernel_rfl) opens_Link)
    refine opensFs_one ?_ ?_ ?_
    · rfl
    · kernel_rfl
    · exact (opens_slice zOutgoing Try.underlying39 (by kernel_rfl) opens_Outgoing)
  exact opens_iso (fun x : GVat => (x.Id, x.Entities, x.Loop, x.Links, x.Out)) (fun p => ⟨p.1, p.2.1, p.2.2.1, p.2.2.2.1, p.2.2.2.2⟩) (fun _ => rfl) h
theorem opens_Channel : Opens Try.prog 137 kl_Channel Gd_Channel := by
  have h : Opens Try.prog 137 (Kn.pair Kn.int (Kn.pair Kn.int (Kn.slice 197 kl_Message))) (fun p : Int × Int × List GMessage => (fun q : Int => (Lit.int .i64 q).wf = true) p.1 ∧ (fun p : Int × List GMessage => (fun q : Int => (Lit.int .i64 q).wf = true) p.1 ∧ (fun p : List GMessage => (p.length ≤ 9223372036854775807 ∧ ∀ y ∈ p, Gd_Message y)) p.2) p.2) := by
    refine opens_struct Try.underlying137 (by kernel_rfl) ?_
    refine opensFs_cons (G := fun q : Int => (Lit.int .i64 q).wf = true) (G' := fun p : Int × List GMessage => (fun q : Int => (Lit.int .i64 q).wf = true) p.1 ∧ (fun p : List GMessage => (p.length ≤ 9223372036854775807 ∧ ∀ y ∈ p, Gd_Message y)) p.2) ?_ ?_ ?_ ?_
    · rfl
    · kernel_rfl
    · exact (opens_int Try.underlying3)
    refine opensFs_cons (G := fun q : Int => (Lit.int .i64 q).wf = true) (G' := fun p : List GMessage => (p.length ≤ 9223372036854775807 ∧ ∀ y ∈ p, Gd_Message y)) ?_ ?_ ?_ ?_
    · rfl
    · kernel_rfl
    · exact (opens_int Try.underlying3)
    refine opensFs_one ?_ ?_ ?_
    · rfl
    · kernel_rfl
    · exact (opens_slice zMessage Try.underlying135 (by kernel_rfl) opens_Message)
  exact opens_iso (fun x : GChannel => (x.From, x.To, x.List)) (fun p => ⟨p.1, p.2.1, p.2.2⟩) (fun _ => rfl) h
theorem opens_Instr : Opens Try.prog 261 kl_Instr Gd_Instr := by
  have h : Opens Try.prog 261 (Kn.pair Kn.int (Kn.pair Kn.int (Kn.pair Kn.int (Kn.pair Kn.int (Kn.pair Kn.int Kn.string))))) (fun p : Int × Int × Int × Int × Int × ByteArray => (fun q : Int => (Lit.int .i64 q).wf = true) p.1 ∧ (fun p : Int × Int × Int × Int × ByteArray => (fun q : Int => (Lit.int .i64 q).wf = true) p.1 ∧ (fun p : Int × Int × Int × ByteArray => (fun q : Int => (Lit.int .i64 q).wf = true) p.1 ∧ (fun p : Int × Int × ByteArray => (fun q : Int => (Lit.int .i64 q).wf = true) p.1 ∧ (fun p : Int × ByteArray => (fun q : Int => (Lit.int .i64 q).wf = true) p.1 ∧ (fun p : ByteArray => p.size ≤ 9223372036854775807) p.2) p.2) p.2) p.2) p.2) := by
    refine opens_struct Try.underlying261 (by kernel_rfl) ?_
    refine opensFs_cons (G := fun q : Int => (Lit.int .i64 q).wf = true) (G' := fun p : Int × Int × Int × Int × ByteArray => (fun q : Int => (Lit.int .i64 q).wf = true) p.1 ∧ (fun p : Int × Int × Int × ByteArray => (fun q : Int => (Lit.int .i64 q).wf = true) p.1 ∧ (fun p : Int × Int × ByteArray => (fun q : Int => (Lit.int .i64 q).wf = true) p.1 ∧ (fun p : Int × ByteArray => (fun q : Int => (Lit.int .i64 q).wf = true) p.1 ∧ (fun p : ByteArray => p.size ≤ 9223372036854775807) p.2) p.2) p.2) p.2) ?_ ?_ ?_ ?_
    · rfl
    · kernel_rfl
    · exact (opens_int Try.underlying3)
    refine opensFs_cons (G := fun q : Int => (Lit.int .i64 q).wf = true) (G' := fun p : Int × Int × Int × ByteArray => (fun q : Int => (Lit.int .i64 q).wf = true) p.1 ∧ (fun p : Int × Int × ByteArray => (fun q : Int => (Lit.int .i64 q).wf = true) p.1 ∧ (fun p : Int × ByteArray => (fun q : Int => (Lit.int .i64 q).wf = true) p.1 ∧ (fun p : ByteArray => p.size ≤ 9223372036854775807) p.2) p.2) p.2) ?_ ?_ ?_ ?_
    · rfl
    · kernel_rfl
    · exact (opens_int Try.underlying3)
    refine opensFs_cons (G := fun q : Int => (Lit.int .i64 q).wf = true) (G' := fun p : Int × Int × ByteArray => (fun q : Int => (Lit.int .i64 q).wf = true) p.1 ∧ (fun p : Int × ByteArray => (fun q : Int => (Lit.int .i64 q).wf = true) p.1 ∧ (fun p : ByteArray => p.size ≤ 9223372036854775807) p.2) p.2) ?_ ?_ ?_ ?_
    · rfl
    · kernel_rfl
    · exact (opens_int Try.underlying3)
    refine opensFs_cons (G := fun q : Int => (Lit.int .i64 q).wf = true) (G' := fun p : Int × ByteArray => (fun q : Int => (Lit.int .i64 q).wf = true) p.1 ∧ (fun p : ByteArray => p.size ≤ 9223372036854775807) p.2) ?_ ?_ ?_ ?_
    · rfl
    · kernel_rfl
    · exact (opens_int Try.underlying3)
    refine opensFs_cons (G := fun q : Int => (Lit.int .i64 q).wf = true) (G' := fun p : ByteArray => p.size ≤ 9223372036854775807) ?_ ?_ ?_ ?_
    · rfl
    · kernel_rfl
    · exact (opens_int Try.underlying3)
    refine opensFs_one ?_ ?_ ?_
    · rfl
    · kernel_rfl
    · exact (opens_string Try.underlying9)
  exact opens_iso (fun x : GInstr => (x.Op, x.A, x.B, x.C, x.D, x.Name)) (fun p => ⟨p.1, p.2.1, p.2.2.1, p.2.2.2.1, p.2.2.2.2.1, p.2.2.2.2.2⟩) (fun _ => rfl) h
theorem opens_Method : Opens Try.prog 247 kl_Method Gd_Method := by
  have h : Opens Try.prog 247 (Kn.pair Kn.string (Kn.slice 261 kl_Instr)) (fun p : ByteArray × List GInstr => (fun q : ByteArray => q.size ≤ 9223372036854775807) p.1 ∧ (fun p : List GInstr => (p.length ≤ 9223372036854775807 ∧ ∀ y ∈ p, Gd_Instr y)) p.2) := by
    refine opens_struct Try.underlying247 (by kernel_rfl) ?_
    refine opensFs_cons (G := fun q : ByteArray => q.size ≤ 9223372036854775807) (G' := fun p : List GInstr => (p.length ≤ 9223372036854775807 ∧ ∀ y ∈ p, Gd_Instr y)) ?_ ?_ ?_ ?_
    · rfl
    · kernel_rfl
    · exact (opens_string Try.underlying9)
    refine opensFs_one ?_ ?_ ?_
    · rfl
    · kernel_rfl
    · exact (opens_slice zInstr Try.underlying245 (by kernel_rfl) opens_Instr)
  exact opens_iso (fun x : GMethod => (x.Name, x.Code)) (fun p => ⟨p.1, p.2⟩) (fun _ => rfl) h
theorem opens_Script : Opens Try.prog 157 kl_Script Gd_Script := by
  have h : Opens Try.prog 157 (Kn.pair Kn.string (Kn.slice 247 kl_Method)) (fun p : ByteArray × List GMethod => (fun q : ByteArray => q.size ≤ 9223372036854775807) p.1 ∧ (fun p : List GMethod => (p.length ≤ 9223372036854775807 ∧ ∀ y ∈ p, Gd_Method y)) p.2) := by
    refine opens_struct Try.underlying157 (by kernel_rfl) ?_
    refine opensFs_cons (G := fun q : ByteArray => q.size ≤ 9223372036854775807) (G' := fun p : List GMethod => (p.length ≤ 9223372036854775807 ∧ ∀ y ∈ p, Gd_Method y)) ?_ ?_ ?_ ?_
    · rfl
    · kernel_rfl
    · exact (opens_string Try.underlying9)
    refine opensFs_one ?_ ?_ ?_
    · rfl
    · kernel_rfl
    · exact (opens_slice zMethod Try.underlying155 (by kernel_rfl) opens_Method)
  exact opens_iso (fun x : GScript => (x.Name, x.Methods)) (fun p => ⟨p.1, p.2⟩) (fun _ => rfl) h
end Go.Proofs.YtfnedoiplblldaaK
