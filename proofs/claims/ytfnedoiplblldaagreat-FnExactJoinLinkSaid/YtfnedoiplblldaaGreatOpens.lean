/- The laws' types, opened: what can be read is of the kind, with the bounds that reading gives. No conditions. -/
import Derived.Test.YtfnedoiplblldaaGreatK
import Derived.Test.YtfnedoiplblldaaGreatOpen
import Derived.KernelRfl
namespace Go.Proofs.YtfnedoiplblldaaGreatK
open Go.RowKit Go.Proofs.YtfnedoiplblldaaGreatSep Go.Proofs.YtfnedoiplblldaaGreatT Go.Proofs.YtfnedoiplblldaaGreatOpen
theorem opens_Instr : Opens Tryz.prog 313 kl_Instr Gd_Instr := by
  have h : Opens Tryz.prog 313 (Kn.pair Kn.int (Kn.pair Kn.int (Kn.pair Kn.int (Kn.pair Kn.int (Kn.pair Kn.int Kn.string))))) (fun p : Int × Int × Int × Int × Int × ByteArray => (fun q : Int => (Lit.int .i64 q).wf = true) p.1 ∧ (fun p : Int × Int × Int × Int × ByteArray => (fun q : Int => (Lit.int .i64 q).wf = true) p.1 ∧ (fun p : Int × Int × Int × ByteArray => (fun q : Int => (Lit.int .i64 q).wf = true) p.1 ∧ (fun p : Int × Int × ByteArray => (fun q : Int => (Lit.int .i64 q).wf = true) p.1 ∧ (fun p : Int × ByteArray => (fun q : Int => (Lit.int .i64 q).wf = true) p.1 ∧ (fun p : ByteArray => p.size ≤ 9223372036854775807) p.2) p.2) p.2) p.2) p.2) := by
    refine opens_struct Tryz.underlying313 (by kernel_rfl) ?_
    refine opensFs_cons (G := fun q : Int => (Lit.int .i64 q).wf = true) (G' := fun p : Int × Int × Int × Int × ByteArray => (fun q : Int => (Lit.int .i64 q).wf = true) p.1 ∧ (fun p : Int × Int × Int × ByteArray => (fun q : Int => (Lit.int .i64 q).wf = true) p.1 ∧ (fun p : Int × Int × ByteArray => (fun q : Int => (Lit.int .i64 q).wf = true) p.1 ∧ (fun p : Int × ByteArray => (fun q : Int => (Lit.int .i64 q).wf = true) p.1 ∧ (fun p : ByteArray => p.size ≤ 9223372036854775807) p.2) p.2) p.2) p.2) ?_ ?_ ?_ ?_
    · rfl
    · kernel_rfl
    · exact (opens_int Tryz.underlying3)
    refine opensFs_cons (G := fun q : Int => (Lit.int .i64 q).wf = true) (G' := fun p : Int × Int × Int × ByteArray => (fun q : Int => (Lit.int .i64 q).wf = true) p.1 ∧ (fun p : Int × Int × ByteArray => (fun q : Int => (Lit.int .i64 q).wf = true) p.1 ∧ (fun p : Int × ByteArray => (fun q : Int => (Lit.int .i64 q).wf = true) p.1 ∧ (fun p : ByteArray => p.size ≤ 9223372036854775807) p.2) p.2) p.2) ?_ ?_ ?_ ?_
    · rfl
    · kernel_rfl
    · exact (opens_int Tryz.underlying3)
    refine opensFs_cons (G := fun q : Int => (Lit.int .i64 q).wf = true) (G' := fun p : Int × Int × ByteArray => (fun q : Int => (Lit.int .i64 q).wf = true) p.1 ∧ (fun p : Int × ByteArray => (fun q : Int => (Lit.int .i64 q).wf = true) p.1 ∧ (fun p : ByteArray => p.size ≤ 9223372036854775807) p.2) p.2) ?_ ?_ ?_ ?_
    · rfl
    · kernel_rfl
    · exact (opens_int Tryz.underlying3)
    refine opensFs_cons (G := fun q : Int => (Lit.int .i64 q).wf = true) (G' := fun p : Int × ByteArray => (fun q : Int => (Lit.int .i64 q).wf = true) p.1 ∧ (fun p : ByteArray => p.size ≤ 9223372036854775807) p.2) ?_ ?_ ?_ ?_
    · rfl
    · kernel_rfl
    · exact (opens_int Tryz.underlying3)
    refine opensFs_cons (G := fun q : Int => (Lit.int .i64 q).wf = true) (G' := fun p : ByteArray => p.size ≤ 9223372036854775807) ?_ ?_ ?_ ?_
    · rfl
    · kernel_rfl
    · exact (opens_int Tryz.underlying3)
    refine opensFs_one ?_ ?_ ?_
    · rfl
    · kernel_rfl
    · exact (opens_string Tryz.underlying9)
  exact opens_iso (fun x : GInstr => (x.Op, x.A, x.B, x.C, x.D, x.Name)) (fun p => ⟨p.1, p.2.1, p.2.2.1, p.2.2.2.1, p.2.2.2.2.1, p.2.2.2.2.2⟩) (fun _ => rfl) h
theorem opens_Method : Opens Tryz.prog 269 kl_Method Gd_Method := by
  have h : Opens Tryz.prog 269 (Kn.pair Kn.string (Kn.slice 313 kl_Instr)) (fun p : ByteArray × List GInstr => (fun q : ByteArray => q.size ≤ 9223372036854775807) p.1 ∧ (fun p : List GInstr => (p.length ≤ 9223372036854775807 ∧ ∀ y ∈ p, Gd_Instr y)) p.2) := by
    refine opens_struct Tryz.underlying269 (by kernel_rfl) ?_
    refine opensFs_cons (G := fun q : ByteArray => q.size ≤ 9223372036854775807) (G' := fun p : List GInstr => (p.length ≤ 9223372036854775807 ∧ ∀ y ∈ p, Gd_Instr y)) ?_ ?_ ?_ ?_
    · rfl
    · kernel_rfl
    · exact (opens_string Tryz.underlying9)
    refine opensFs_one ?_ ?_ ?_
    · rfl
    · kernel_rfl
    · exact (opens_slice zInstr Tryz.underlying267 (by kernel_rfl) opens_Instr)
  exact opens_iso (fun x : GMethod => (x.Name, x.Code)) (fun p => ⟨p.1, p.2⟩) (fun _ => rfl) h
theorem opens_Script : Opens Tryz.prog 125 kl_Script Gd_Script := by
  have h : Opens Tryz.prog 125 (Kn.pair Kn.string (Kn.slice 269 kl_Method)) (fun p : ByteArray × List GMethod => (fun q : ByteArray => q.size ≤ 9223372036854775807) p.1 ∧ (fun p : List GMethod => (p.length ≤ 9223372036854775807 ∧ ∀ y ∈ p, Gd_Method y)) p.2) := by
    refine opens_struct Tryz.underlying125 (by kernel_rfl) ?_
    refine opensFs_cons (G := fun q : ByteArray => q.size ≤ 9223372036854775807) (G' := fun p : List GMethod => (p.length ≤ 9223372036854775807 ∧ ∀ y ∈ p, Gd_Method y)) ?_ ?_ ?_ ?_
    · rfl
    · kernel_rfl
    · exact (opens_string Tryz.underlying9)
    refine opensFs_one ?_ ?_ ?_
    · rfl
    · kernel_rfl
    · exact (opens_slice zMethod Tryz.underlying123 (by kernel_rfl) opens_Method)
  exact opens_iso (fun x : GScript => (x.Name, x.Methods)) (fun p => ⟨p.1, p.2⟩) (fun _ => rfl) h
theorem opens_Value : Opens Tryz.prog 92 kl_Value Gd_Value := by
  have h : Opens Tryz.prog 92 (Kn.pair Kn.int Kn.int) (fun p : Int × Int => (fun q : Int => (Lit.int .i64 q).wf = true) p.1 ∧ (fun p : Int => (Lit.int .i64 p).wf = true) p.2) := by
    refine opens_struct Tryz.underlying92 (by kernel_rfl) ?_
    refine opensFs_cons (G := fun q : Int => (Lit.int .i64 q).wf = true) (G' := fun p : Int => (Lit.int .i64 p).wf = true) ?_ ?_ ?_ ?_
    · rfl
    · kernel_rfl
    · exact (opens_int Tryz.underlying3)
    refine opensFs_one ?_ ?_ ?_
    · rfl
    · kernel_rfl
    · exact (opens_int Tryz.underlying3)
  exact opens_iso (fun x : GValue => (x.Kind, x.N)) (fun p => ⟨p.1, p.2⟩) (fun _ => rfl) h
theorem opens_Tag : Opens Tryz.prog 29 kl_Tag Gd_Tag := by
  have h : Opens Tryz.prog 29 (Kn.pair Kn.int (Kn.pair Kn.int Kn.int)) (fun p : Int × Int × Int => (fun q : Int => (Lit.int .i64 q).wf = true) p.1 ∧ (fun p : Int × Int => (fun q : Int => (Lit.int .i64 q).wf = true) p.1 ∧ (fun p : Int => (Lit.int .i64 p).wf = true) p.2) p.2) := by
    refine opens_struct Tryz.underlying29 (by kernel_rfl) ?_
    refine opensFs_cons (G := fun q : Int => (Lit.int .i64 q).wf = true) (G' := fun p : Int × Int => (fun q : Int => (Lit.int .i64 q).wf = true) p.1 ∧ (fun p : Int => (Lit.int .i64 p).wf = true) p.2) ?_ ?_ ?_ ?_
    · rfl
    · kernel_rfl
    · exact (opens_int Tryz.underlying3)
    refine opensFs_cons (G := fun q : Int => (Lit.int .i64 q).wf = true) (G' := fun p : Int => (Lit.int .i64 p).wf = true) ?_ ?_ ?_ ?_
    · rfl
    · kernel_rfl
    · exact (opens_int Tryz.underlying3)
    refine opensFs_one ?_ ?_ ?_
    · rfl
    · kernel_rfl
    · exact (opens_int Tryz.underlying3)
  exact opens_iso (fun x : GTag => (x.Vat, x.Entity, x.Seq)) (fun p => ⟨p.1, p.2.1, p.2.2⟩) (fun _ => rfl) h
theorem opens_Sent : Opens Tryz.prog 221 kl_Sent Gd_Sent := by
  have h : Opens Tryz.prog 221 (Kn.pair Kn.int (Kn.pair Kn.string (Kn.pair (Kn.slice 92 kl_Value) (Kn.pair Kn.int kl_Tag)))) (fun p : Int × ByteArray × List GValue × Int × GTag => (fun q : Int => (Lit.int .i64 q).wf = true) p.1 ∧ (fun p : ByteArray × List GValue × Int × GTag => (fun q : ByteArray => q.size ≤ 9223372036854775807) p.1 ∧ (fun p : List GValue × Int × GTag => (fun q : List GValue => (q.length ≤ 9223372036854775807 ∧ ∀ y ∈ q, Gd_Value y)) p.1 ∧ (fun p : Int × GTag => (fun q : Int => (Lit.int .i64 q).wf = true) p.1 ∧ (fun p : GTag => Gd_Tag p) p.2) p.2) p.2) p.2) := by
    refine opens_struct Tryz.underlying221 (by kernel_rfl) ?_
    refine opensFs_cons (G := fun q : Int => (Lit.int .i64 q).wf = true) (G' := fun p : ByteArray × List GValue × Int × GTag => (fun q : ByteArray => q.size ≤ 9223372036854775807) p.1 ∧ (fun p : List GValue × Int × GTag => (fun q : List GValue => (q.length ≤ 9223372036854775807 ∧ ∀ y ∈ q, Gd_Value y)) p.1 ∧ (fun p : Int × GTag => (fun q : Int => (Lit.int .i64 q).wf = true) p.1 ∧ (fun p : GTag => Gd_Tag p) p.2) p.2) p.2) ?_ ?_ ?_ ?_
    · rfl
    · kernel_rfl
    · exact (opens_int Tryz.underlying3)
    refine opensFs_cons (G := fun q : ByteArray => q.size ≤ 9223372036854775807) (G' := fun p : List GValue × Int × GTag => (fun q : List GValue => (q.length ≤ 9223372036854775807 ∧ ∀ y ∈ q, Gd_Value y)) p.1 ∧ (fun p : Int × GTag => (fun q : Int => (Lit.int .i64 q).wf = true) p.1 ∧ (fun p : GTag => Gd_Tag p) p.2) p.2) ?_ ?_ ?_ ?_
    · rfl
    · kernel_rfl
    · exact (opens_string Tryz.underlying9)
    refine opensFs_cons (G := fun q : List GValue => (q.length ≤ 9223372036854775807 ∧ ∀ y ∈ q, Gd_Value y)) (G' := fun p : Int × GTag => (fun q : Int => (Lit.int .i64 q).wf = true) p.1 ∧ (fun p : GTag => Gd_Tag p) p.2) ?_ ?_ ?_ ?_
    · rfl
    · kernel_rfl
    · exact (opens_slice zValue Tryz.underlying81 (by kernel_rfl) opens_Value)
    refine opensFs_cons (G := fun q : Int => (Lit.int .i64 q).wf = true) (G' := fun p : GTag => Gd_Tag p) ?_ ?_ ?_ ?_
    · rfl
    · kernel_rfl
    · exact (opens_int Tryz.underlying3)
    refine opensFs_one ?_ ?_ ?_
    · rfl
    · kernel_rfl
    · exact opens_Tag
  exact opens_iso (fun x : GSent => (x.Target, x.Name, x.Args, x.Result, x.Tag)) (fun p => ⟨p.1, p.2.1, p.2.2.1, p.2.2.2.1, p.2.2.2.2⟩) (fun _ => rfl) h
theorem opens_Asker : Opens Tryz.prog 304 kl_Asker Gd_Asker := by
  have h : Opens Tryz.prog 304 (Kn.pair Kn.int Kn.int) (fun p : Int × Int => (fun q : Int => (Lit.int .i64 q).wf = true) p.1 ∧ (fun p : Int => (Lit.int .i64 p).wf = true) p.2) := by
    refine opens_struct Tryz.underlying304 (by kernel_rfl) ?_
    refine opensFs_cons (G := fun q : Int => (Lit.int .i64 q).wf = true) (G' := fun p : Int => (Lit.int .i64 p).wf = true) ?_ ?_ ?_ ?_
    · rfl
    · kernel_rfl
    · exact (opens_int Tryz.underlying3)
    refine opensFs_one ?_ ?_ ?_
    · rfl
    · kernel_rfl
    · exact (opens_int Tryz.underlying3)
  exact opens_iso (fun x : GAsker => (x.Peer, x.Question)) (fun p => ⟨p.1, p.2⟩) (fun _ => rfl) h
theorem opens_Entity : Opens Tryz.prog 218 kl_Entity Gd_Entity := by
  have h : Opens Tryz.prog 218 (Kn.pair Kn.int (Kn.pair Kn.int (Kn.pair (Kn.slice 92 kl_Value) (Kn.pair Kn.int (Kn.pair kl_Value (Kn.pair (Kn.slice 221 kl_Sent) (Kn.pair (Kn.slice 304 kl_Asker) (Kn.pair Kn.int (Kn.pair Kn.int (Kn.pair Kn.int Kn.int)))))))))) (fun p : Int × Int × List GValue × Int × GValue × List GSent × List GAsker × Int × Int × Int × Int => (fun q : Int => (Lit.int .i64 q).wf = true) p.1 ∧ (fun p : Int × List GValue × Int × GValue × List GSent × List GAsker × Int × Int × Int × Int => (fun q : Int => (Lit.int .i64 q).wf = true) p.1 ∧ (fun p : List GValue × Int × GValue × List GSent × List GAsker × Int × Int × Int × Int => (fun q : List GValue => (q.length ≤ 9223372036854775807 ∧ ∀ y ∈ q, Gd_Value y)) p.1 ∧ (fun p : Int × GValue × List GSent × List GAsker × Int × Int × Int × Int => (fun q : Int => (Lit.int .i64 q).wf = true) p.1 ∧ (fun p : GValue × List GSent × List GAsker × Int × Int × Int × Int => (fun q : GValue => Gd_Value q) p.1 ∧ (fun p : List GSent × List GAsker × Int × Int × Int × Int => (fun q : List GSent => (q.length ≤ 9223372036854775807 ∧ ∀ y ∈ q, Gd_Sent y)) p.1 ∧ (fun p : List GAsker × Int × Int × Int × Int => (fun q : List GAsker => (q.length ≤ 9223372036854775807 ∧ ∀ y ∈ q, Gd_Asker y)) p.1 ∧ (fun p : Int × Int × Int × Int => (fun q : Int => (Lit.int .i64 q).wf = true) p.1 ∧ (fun p : Int × Int × Int => (fun q : Int => (Lit.int .i64 q).wf = true) p.1 ∧ (fun p : Int × Int => (fun q : Int => (Lit.int .i64 q).wf = true) p.1 ∧ (fun p : Int => (Lit.int .i64 p).wf = true) p.2) p.2) p.2) p.2) p.2) p.2) p.2) p.2) p.2) p.2) := by
    refine opens_struct Tryz.underlying218 (by kernel_rfl) ?_
    refine opensFs_cons (G := fun q : Int => (Lit.int .i64 q).wf = true) (G' := fun p : Int × List GValue × Int × GValue × List GSent × List GAsker × Int × Int × Int × Int => (fun q : Int => (Lit.int .i64 q).wf = true) p.1 ∧ (fun p : List GValue × Int × GValue × List GSent × List GAsker × Int × Int × Int × Int => (fun q : List GValue => (q.length ≤ 9223372036854775807 ∧ ∀ y ∈ q, Gd_Value y)) p.1 ∧ (fun p : Int × GValue × List GSent × List GAsker × Int × Int × Int × Int => (fun q : Int => (Lit.int .i64 q).wf = true) p.1 ∧ (fun p : GValue × List GSent × List GAsker × Int × Int × Int × Int => (fun q : GValue => Gd_Value q) p.1 ∧ (fun p : List GSent × List GAsker × Int × Int × Int × Int => (fun q : List GSent => (q.length ≤ 9223372036854775807 ∧ ∀ y ∈ q, Gd_Sent y)) p.1 ∧ (fun p : List GAsker × Int × Int × Int × Int => (fun q : List GAsker => (q.length ≤ 9223372036854775807 ∧ ∀ y ∈ q, Gd_Asker y)) p.1 ∧ (fun p : Int × Int × Int × Int => (fun q : Int => (Lit.int .i64 q).wf = true) p.1 ∧ (fun p : Int × Int × Int => (fun q : Int => (Lit.int .i64 q).wf = true) p.1 ∧ (fun p : Int × Int => (fun q : Int => (Lit.int .i64 q).wf = true) p.1 ∧ (fun p : Int => (Lit.int .i64 p).wf = true) p.2) p.2) p.2) p.2) p.2) p.2) p.2) p.2) p.2) ?_ ?_ ?_ ?_
    · rfl
    · kernel_rfl
    · exact (opens_int Tryz.underlying3)
    refine opensFs_cons (G := fun q : Int => (Lit.int .i64 q).wf = true) (G' := fun p : List GValue × Int × GValue × List GSent × List GAsker × Int × Int × Int × Int => (fun q : List GValue => (q.length ≤ 9223372036854775807 ∧ ∀ y ∈ q, Gd_Value y)) p.1 ∧ (fun p : Int × GValue × List GSent × List GAsker × Int × Int × Int × Int => (fun q : Int => (Lit.int .i64 q).wf = true) p.1 ∧ (fun p : GValue × List GSent × List GAsker × Int × Int × Int × Int => (fun q : GValue => Gd_Value q) p.1 ∧ (fun p : List GSent × List GAsker × Int × Int × Int × Int => (fun q : List GSent => (q.length ≤ 9223372036854775807 ∧ ∀ y ∈ q, Gd_Sent y)) p.1 ∧ (fun p : List GAsker × Int × Int × Int × Int => (fun q : List GAsker => (q.length ≤ 9223372036854775807 ∧ ∀ y ∈ q, Gd_Asker y)) p.1 ∧ (fun p : Int × Int × Int × Int => (fun q : Int => (Lit.int .i64 q).wf = true) p.1 ∧ (fun p : Int × Int × Int => (fun q : Int => (Lit.int .i64 q).wf = true) p.1 ∧ (fun p : Int × Int => (fun q : Int => (Lit.int .i64 q).wf = true) p.1 ∧ (fun p : Int => (Lit.int .i64 p).wf = true) p.2) p.2) p.2) p.2) p.2) p.2) p.2) p.2) ?_ ?_ ?_ ?_
    · rfl
    · kernel_rfl
    · exact (opens_int Tryz.underlying3)
    refine opensFs_cons (G := fun q : List GValue => (q.length ≤ 9223372036854775807 ∧ ∀ y ∈ q, Gd_Value y)) (G' := fun p : Int × GValue × List GSent × List GAsker × Int × Int × Int × Int => (fun q : Int => (Lit.int .i64 q).wf = true) p.1 ∧ (fun p : GValue × List GSent × List GAsker × Int × Int × Int × Int => (fun q : GValue => Gd_Value q) p.1 ∧ (fun p : List GSent × List GAsker × Int × Int × Int × Int => (fun q : List GSent => (q.length ≤ 9223372036854775807 ∧ ∀ y ∈ q, Gd_Sent y)) p.1 ∧ (fun p : List GAsker × Int × Int × Int × Int => (fun q : List GAsker => (q.length ≤ 9223372036854775807 ∧ ∀ y ∈ q, Gd_Asker y)) p.1 ∧ (fun p : Int × Int × Int × Int => (fun q : Int => (Lit.int .i64 q).wf = true) p.1 ∧ (fun p : Int × Int × Int => (fun q : Int => (Lit.int .i64 q).wf = true) p.1 ∧ (fun p : Int × Int => (fun q : Int => (Lit.int .i64 q).wf = true) p.1 ∧ (fun p : Int => (Lit.int .i64 p).wf = true) p.2) p.2) p.2) p.2) p.2) p.2) p.2) ?_ ?_ ?_ ?_
    · rfl
    · kernel_rfl
    · exact (opens_slice zValue Tryz.underlying81 (by kernel_rfl) opens_Value)
    refine opensFs_cons (G := fun q : Int => (Lit.int .i64 q).wf = true) (G' := fun p : GValue × List GSent × List GAsker × Int × Int × Int × Int => (fun q : GValue => Gd_Value q) p.1 ∧ (fun p : List GSent × List GAsker × Int × Int × Int × Int => (fun q : List GSent => (q.length ≤ 9223372036854775807 ∧ ∀ y ∈ q, Gd_Sent y)) p.1 ∧ (fun p : List GAsker × Int × Int × Int × Int => (fun q : List GAsker => (q.length ≤ 9223372036854775807 ∧ ∀ y ∈ q, Gd_Asker y)) p.1 ∧ (fun p : Int × Int × Int × Int => (fun q : Int => (Lit.int .i64 q).wf = true) p.1 ∧ (fun p : Int × Int × Int => (fun q : Int => (Lit.int .i64 q).wf = true) p.1 ∧ (fun p : Int × Int => (fun q : Int => (Lit.int .i64 q).wf = true) p.1 ∧ (fun p : Int => (Lit.int .i64 p).wf = true) p.2) p.2) p.2) p.2) p.2) p.2) ?_ ?_ ?_ ?_
    · rfl
    · kernel_rfl
    · exact (opens_int Tryz.underlying3)
    refine opensFs_cons (G := fun q : GValue => Gd_Value q) (G' := fun p : List GSent × List GAsker × Int × Int × Int × Int => (fun q : List GSent => (q.length ≤ 9223372036854775807 ∧ ∀ y ∈ q, Gd_Sent y)) p.1 ∧ (fun p : List GAsker × Int × Int × Int × Int => (fun q : List GAsker => (q.length ≤ 9223372036854775807 ∧ ∀ y ∈ q, Gd_Asker y)) p.1 ∧ (fun p : Int × Int × Int × Int => (fun q : Int => (Lit.int .i64 q).wf = true) p.1 ∧ (fun p : Int × Int × Int => (fun q : Int => (Lit.int .i64 q).wf = true) p.1 ∧ (fun p : Int × Int => (fun q : Int => (Lit.int .i64 q).wf = true) p.1 ∧ (fun p : Int => (Lit.int .i64 p).wf = true) p.2) p.2) p.2) p.2) p.2) ?_ ?_ ?_ ?_
    · rfl
    · kernel_rfl
    · exact opens_Value
    refine opensFs_cons (G := fun q : List GSent => (q.length ≤ 9223372036854775807 ∧ ∀ y ∈ q, Gd_Sent y)) (G' := fun p : List GAsker × Int × Int × Int × Int => (fun q : List GAsker => (q.length ≤ 9223372036854775807 ∧ ∀ y ∈ q, Gd_Asker y)) p.1 ∧ (fun p : Int × Int × Int × Int => (fun q : Int => (Lit.int .i64 q).wf = true) p.1 ∧ (fun p : Int × Int × Int => (fun q : Int => (Lit.int .i64 q).wf = true) p.1 ∧ (fun p : Int × Int => (fun q : Int => (Lit.int .i64 q).wf = true) p.1 ∧ (fun p : Int => (Lit.int .i64 p).wf = true) p.2) p.2) p.2) p.2) ?_ ?_ ?_ ?_
    · rfl
    · kernel_rfl
    · exact (opens_slice zSent Tryz.underlying51 (by kernel_rfl) opens_Sent)
    refine opensFs_cons (G := fun q : List GAsker => (q.length ≤ 9223372036854775807 ∧ ∀ y ∈ q, Gd_Asker y)) (G' := fun p : Int × Int × Int × Int => (fun q : Int => (Lit.int .i64 q).wf = true) p.1 ∧ (fun p : Int × Int × Int => (fun q : Int => (Lit.int .i64 q).wf = true) p.1 ∧ (fun p : Int × Int => (fun q : Int => (Lit.int .i64 q).wf = true) p.1 ∧ (fun p : Int => (Lit.int .i64 p).wf = true) p.2) p.2) p.2) ?_ ?_ ?_ ?_
    · rfl
    · kernel_rfl
    · exact (opens_slice zAsker Tryz.underlying216 (by kernel_rfl) opens_Asker)
    refine opensFs_cons (G := fun q : Int => (Lit.int .i64 q).wf = true) (G' := fun p : Int × Int × Int => (fun q : Int => (Lit.int .i64 q).wf = true) p.1 ∧ (fun p : Int × Int => (fun q : Int => (Lit.int .i64 q).wf = true) p.1 ∧ (fun p : Int => (Lit.int .i64 p).wf = true) p.2) p.2) ?_ ?_ ?_ ?_
    · rfl
    · kernel_rfl
    · exact (opens_int Tryz.underlying3)
    refine opensFs_cons (G := fun q : Int => (Lit.int .i64 q).wf = true) (G' := fun p : Int × Int => (fun q : Int => (Lit.int .i64 q).wf = true) p.1 ∧ (fun p : Int => (Lit.int .i64 p).wf = true) p.2) ?_ ?_ ?_ ?_
    · rfl
    · kernel_rfl
    · exact (opens_int Tryz.underlying3)
    refine opensFs_cons (G := fun q : Int => (Lit.int .i64 q).wf = true) (G' := fun p : Int => (Lit.int .i64 p).wf = true) ?_ ?_ ?_ ?_
    · rfl
    · kernel_rfl
    · exact (opens_int Tryz.underlying3)
    refine opensFs_one ?_ ?_ ?_
    · rfl
    · kernel_rfl
    · exact (opens_int Tryz.underlying3)
  exact opens_iso (fun x : GEntity => (x.Kind, x.Script, x.Slots, x.State, x.Value, x.Queue, x.Askers, x.Peer, x.Pos, x.Count, x.Sent)) (fun p => ⟨p.1, p.2.1, p.2.2.1, p.2.2.2.1, p.2.2.2.2.1, p.2.2.2.2.2.1, p.2.2.2.2.2.2.1, p.2.2.2.2.2.2.2.1, p.2.2.2.2.2.2.2.2.1, p.2.2.2.2.2.2.2.2.2.1, p.2.2.2.2.2.2.2.2.2.2⟩) (fun _ => rfl) h
theorem opens_Export : Opens Tryz.prog 306 kl_Export Gd_Export := by
  have h : Opens Tryz.prog 306 (Kn.pair Kn.int (Kn.pair Kn.int Kn.int)) (fun p : Int × Int × Int => (fun q : Int => (Lit.int .i64 q).wf = true) p.1 ∧ (fun p : Int × Int => (fun q : Int => (Lit.int .i64 q).wf = true) p.1 ∧ (fun p : Int => (Lit.int .i64 p).wf = true) p.2) p.2) := by
    refine opens_struct Tryz.underlying306 (by kernel_rfl) ?_
    refine opensFs_cons (G := fun q : Int => (Lit.int .i64 q).wf = true) (G' := fun p : Int × Int => (fun q : Int => (Lit.int .i64 q).wf = true) p.1 ∧ (fun p : Int => (Lit.int .i64 p).wf = true) p.2) ?_ ?_ ?_ ?_
    · rfl
    · kernel_rfl
    · exact (opens_int Tryz.underlying3)
    refine opensFs_cons (G := fun q : Int => (Lit.int .i64 q).wf = true) (G' := fun p : Int => (Lit.int .i64 p).wf = true) ?_ ?_ ?_ ?_
    · rfl
    · kernel_rfl
    · exact (opens_int Tryz.underlying3)
    refine opensFs_one ?_ ?_ ?_
    · rfl
    · kernel_rfl
    · exact (opens_int Tryz.underlying3)
  exact opens_iso (fun x : GExport => (x.Pos, x.Entity, x.Count)) (fun p => ⟨p.1, p.2.1, p.2.2⟩) (fun _ => rfl) h
theorem opens_Question : Opens Tryz.prog 308 kl_Question Gd_Question := by
  have h : Opens Tryz.prog 308 (Kn.pair Kn.int Kn.int) (fun p : Int × Int => (fun q : Int => (Lit.int .i64 q).wf = true) p.1 ∧ (fun p : Int => (Lit.int .i64 p).wf = true) p.2) := by
    refine opens_struct Tryz.underlying308 (by kernel_rfl) ?_
    refine opensFs_cons (G := fun q : Int => (Lit.int .i64 q).wf = true) (G' := fun p : Int => (Lit.int .i64 p).wf = true) ?_ ?_ ?_ ?_
    · rfl
    · kernel_rfl
    · exact (opens_int Tryz.underlying3)
    refine opensFs_one ?_ ?_ ?_
    · rfl
    · kernel_rfl
    · exact (opens_int Tryz.underlying3)
  exact opens_iso (fun x : GQuestion => (x.Id, x.Promise)) (fun p => ⟨p.1, p.2⟩) (fun _ => rfl) h
theorem opens_Link : Opens Tryz.prog 226 kl_Link Gd_Link := by
  have h : Opens Tryz.prog 226 (Kn.pair Kn.int (Kn.pair Kn.bool (Kn.pair (Kn.slice 306 kl_Export) (Kn.pair Kn.int (Kn.pair (Kn.slice 308 kl_Question) (Kn.pair Kn.int (Kn.slice 308 kl_Question))))))) (fun p : Int × Bool × List GExport × Int × List GQuestion × Int × List GQuestion => (fun q : Int => (Lit.int .i64 q).wf = true) p.1 ∧ (fun p : Bool × List GExport × Int × List GQuestion × Int × List GQuestion => (fun q : Bool => True) p.1 ∧ (fun p : List GExport × Int × List GQuestion × Int × List GQuestion => (fun q : List GExport => (q.length ≤ 9223372036854775807 ∧ ∀ y ∈ q, Gd_Export y)) p.1 ∧ (fun p : Int × List GQuestion × Int × List GQuestion => (fun q : Int => (Lit.int .i64 q).wf = true) p.1 ∧ (fun p : List GQuestion × Int × List GQuestion => (fun q : List GQuestion => (q.length ≤ 9223372036854775807 ∧ ∀ y ∈ q, Gd_Question y)) p.1 ∧ (fun p : Int × List GQuestion => (fun q : Int => (Lit.int .i64 q).wf = true) p.1 ∧ (fun p : List GQuestion => (p.length ≤ 9223372036854775807 ∧ ∀ y ∈ p, Gd_Question y)) p.2) p.2) p.2) p.2) p.2) p.2) := by
    refine opens_struct Tryz.underlying226 (by kernel_rfl) ?_
    refine opensFs_cons (G := fun q : Int => (Lit.int .i64 q).wf = true) (G' := fun p : Bool × List GExport × Int × List GQuestion × Int × List GQuestion => (fun q : Bool => True) p.1 ∧ (fun p : List GExport × Int × List GQuestion × Int × List GQuestion => (fun q : List GExport => (q.length ≤ 9223372036854775807 ∧ ∀ y ∈ q, Gd_Export y)) p.1 ∧ (fun p : Int × List GQuestion × Int × List GQuestion => (fun q : Int => (Lit.int .i64 q).wf = true) p.1 ∧ (fun p : List GQuestion × Int × List GQuestion => (fun q : List GQuestion => (q.length ≤ 9223372036854775807 ∧ ∀ y ∈ q, Gd_Question y)) p.1 ∧ (fun p : Int × List GQuestion => (fun q : Int => (Lit.int .i64 q).wf = true) p.1 ∧ (fun p : List GQuestion => (p.length ≤ 9223372036854775807 ∧ ∀ y ∈ p, Gd_Question y)) p.2) p.2) p.2) p.2) p.2) ?_ ?_ ?_ ?_
    · rfl
    · kernel_rfl
    · exact (opens_int Tryz.underlying3)
    refine opensFs_cons (G := fun q : Bool => True) (G' := fun p : List GExport × Int × List GQuestion × Int × List GQuestion => (fun q : List GExport => (q.length ≤ 9223372036854775807 ∧ ∀ y ∈ q, Gd_Export y)) p.1 ∧ (fun p : Int × List GQuestion × Int × List GQuestion => (fun q : Int => (Lit.int .i64 q).wf = true) p.1 ∧ (fun p : List GQuestion × Int × List GQuestion => (fun q : List GQuestion => (q.length ≤ 9223372036854775807 ∧ ∀ y ∈ q, Gd_Question y)) p.1 ∧ (fun p : Int × List GQuestion => (fun q : Int => (Lit.int .i64 q).wf = true) p.1 ∧ (fun p : List GQuestion => (p.length ≤ 9223372036854775807 ∧ ∀ y ∈ p, Gd_Question y)) p.2) p.2) p.2) p.2) ?_ ?_ ?_ ?_
    · rfl
    · kernel_rfl
    · exact (opens_bool Tryz.underlying4)
    refine opensFs_cons (G := fun q : List GExport => (q.length ≤ 9223372036854775807 ∧ ∀ y ∈ q, Gd_Export y)) (G' := fun p : Int × List GQuestion × Int × List GQuestion => (fun q : Int => (Lit.int .i64 q).wf = true) p.1 ∧ (fun p : List GQuestion × Int × List GQuestion => (fun q : List GQuestion => (q.length ≤ 9223372036854775807 ∧ ∀ y ∈ q, Gd_Question y)) p.1 ∧ (fun p : Int × List GQuestion => (fun q : Int => (Lit.int .i64 q).wf = true) p.1 ∧ (fun p : List GQuestion => (p.length ≤ 9223372036854775807 ∧ ∀ y ∈ p, Gd_Question y)) p.2) p.2) p.2) ?_ ?_ ?_ ?_
    · rfl
    · kernel_rfl
    · exact (opens_slice zExport Tryz.underlying223 (by kernel_rfl) opens_Export)
    refine opensFs_cons (G := fun q : Int => (Lit.int .i64 q).wf = true) (G' := fun p : List GQuestion × Int × List GQuestion => (fun q : List GQuestion => (q.length ≤ 9223372036854775807 ∧ ∀ y ∈ q, Gd_Question y)) p.1 ∧ (fun p : Int × List GQuestion => (fun q : Int => (Lit.int .i64 q).wf = true) p.1 ∧ (fun p : List GQuestion => (p.length ≤ 9223372036854775807 ∧ ∀ y ∈ p, Gd_Question y)) p.2) p.2) ?_ ?_ ?_ ?_
    · rfl
    · kernel_rfl
    · exact (opens_int Tryz.underlying3)
    refine opensFs_cons (G := fun q : List GQuestion => (q.length ≤ 9223372036854775807 ∧ ∀ y ∈ q, Gd_Question y)) (G' := fun p : Int × List GQuestion => (fun q : Int => (Lit.int .i64 q).wf = true) p.1 ∧ (fun p : List GQuestion => (p.length ≤ 9223372036854775807 ∧ ∀ y ∈ p, Gd_Question y)) p.2) ?_ ?_ ?_ ?_
    · rfl
    · kernel_rfl
    · exact (opens_slice zQuestion Tryz.underlying224 (by kernel_rfl) opens_Question)
    refine opensFs_cons (G := fun q : Int => (Lit.int .i64 q).wf = true) (G' := fun p : List GQuestion => (p.length ≤ 9223372036854775807 ∧ ∀ y ∈ p, Gd_Question y)) ?_ ?_ ?_ ?_
    · rfl
    · kernel_rfl
    · exact (opens_int Tryz.underlying3)
    refine opensFs_one ?_ ?_ ?_
    · rfl
    · kernel_rfl
    · exact (opens_slice zQuestion Tryz.underlying224 (by kernel_rfl) opens_Question)
  exact opens_iso (fun x : GLink => (x.Peer, x.Up, x.Exports, x.Next, x.Questions, x.Asked, x.Answers)) (fun p => ⟨p.1, p.2.1, p.2.2.1, p.2.2.2.1, p.2.2.2.2.1, p.2.2.2.2.2.1, p.2.2.2.2.2.2⟩) (fun _ => rfl) h
theorem opens_Wire : Opens Tryz.prog 58 kl_Wire Gd_Wire := by
  have h : Opens Tryz.prog 58 (Kn.pair Kn.int Kn.int) (fun p : Int × Int => (fun q : Int => (Lit.int .i64 q).wf = true) p.1 ∧ (fun p : Int => (Lit.int .i64 p).wf = true) p.2) := by
    refine opens_struct Tryz.underlying58 (by kernel_rfl) ?_
    refine opensFs_cons (G := fun q : Int => (Lit.int .i64 q).wf = true) (G' := fun p : Int => (Lit.int .i64 p).wf = true) ?_ ?_ ?_ ?_
    · rfl
    · kernel_rfl
    · exact (opens_int Tryz.underlying3)
    refine opensFs_one ?_ ?_ ?_
    · rfl
    · kernel_rfl
    · exact (opens_int Tryz.underlying3)
  exact opens_iso (fun x : GWire => (x.Kind, x.N)) (fun p => ⟨p.1, p.2⟩) (fun _ => rfl) h
theorem opens_Message : Opens Tryz.prog 60 kl_Message Gd_Message := by
  have h : Opens Tryz.prog 60 (Kn.pair Kn.int (Kn.pair Kn.int (Kn.pair Kn.int (Kn.pair Kn.int (Kn.pair Kn.string (Kn.pair (Kn.slice 58 kl_Wire) (Kn.pair kl_Wire (Kn.pair Kn.int kl_Tag)))))))) (fun p : Int × Int × Int × Int × ByteArray × List GWire × GWire × Int × GTag => (fun q : Int => (Lit.int .i64 q).wf = true) p.1 ∧ (fun p : Int × Int × Int × ByteArray × List GWire × GWire × Int × GTag => (fun q : Int => (Lit.int .i64 q).wf = true) p.1 ∧ (fun p : Int × Int × ByteArray × List GWire × GWire × Int × GTag => (fun q : Int => (Lit.int .i64 q).wf = true) p.1 ∧ (fun p : Int × ByteArray × List GWire × GWire × Int × GTag => (fun q : Int => (Lit.int .i64 q).wf = true) p.1 ∧ (fun p : ByteArray × List GWire × GWire × Int × GTag => (fun q : ByteArray => q.size ≤ 9223372036854775807) p.1 ∧ (fun p : List GWire × GWire × Int × GTag => (fun q : List GWire => (q.length ≤ 9223372036854775807 ∧ ∀ y ∈ q, Gd_Wire y)) p.1 ∧ (fun p : GWire × Int × GTag => (fun q : GWire => Gd_Wire q) p.1 ∧ (fun p : Int × GTag => (fun q : Int => (Lit.int .i64 q).wf = true) p.1 ∧ (fun p : GTag => Gd_Tag p) p.2) p.2) p.2) p.2) p.2) p.2) p.2) p.2) := by
    refine opens_struct Tryz.underlying60 (by kernel_rfl) ?_
    refine opensFs_cons (G := fun q : Int => (Lit.int .i64 q).wf = true) (G' := fun p : Int × Int × Int × ByteArray × List GWire × GWire × Int × GTag => (fun q : Int => (Lit.int .i64 q).wf = true) p.1 ∧ (fun p : Int × Int × ByteArray × List GWire × GWire × Int × GTag => (fun q : Int => (Lit.int .i64 q).wf = true) p.1 ∧ (fun p : Int × ByteArray × List GWire × GWire × Int × GTag => (fun q : Int => (Lit.int .i64 q).wf = true) p.1 ∧ (fun p : ByteArray × List GWire × GWire × Int × GTag => (fun q : ByteArray => q.size ≤ 9223372036854775807) p.1 ∧ (fun p : List GWire × GWire × Int × GTag => (fun q : List GWire => (q.length ≤ 9223372036854775807 ∧ ∀ y ∈ q, Gd_Wire y)) p.1 ∧ (fun p : GWire × Int × GTag => (fun q : GWire => Gd_Wire q) p.1 ∧ (fun p : Int × GTag => (fun q : Int => (Lit.int .i64 q).wf = true) p.1 ∧ (fun p : GTag => Gd_Tag p) p.2) p.2) p.2) p.2) p.2) p.2) p.2) ?_ ?_ ?_ ?_
    · rfl
    · kernel_rfl
    · exact (opens_int Tryz.underlying3)
    refine opensFs_cons (G := fun q : Int => (Lit.int .i64 q).wf = true) (G' := fun p : Int × Int × ByteArray × List GWire × GWire × Int × GTag => (fun q : Int => (Lit.int .i64 q).wf = true) p.1 ∧ (fun p : Int × ByteArray × List GWire × GWire × Int × GTag => (fun q : Int => (Lit.int .i64 q).wf = true) p.1 ∧ (fun p : ByteArray × List GWire × GWire × Int × GTag => (fun q : ByteArray => q.size ≤ 9223372036854775807) p.1 ∧ (fun p : List GWire × GWire × Int × GTag => (fun q : List GWire => (q.length ≤ 9223372036854775807 ∧ ∀ y ∈ q, Gd_Wire y)) p.1 ∧ (fun p : GWire × Int × GTag => (fun q : GWire => Gd_Wire q) p.1 ∧ (fun p : Int × GTag => (fun q : Int => (Lit.int .i64 q).wf = true) p.1 ∧ (fun p : GTag => Gd_Tag p) p.2) p.2) p.2) p.2) p.2) p.2) ?_ ?_ ?_ ?_
    · rfl
    · kernel_rfl
    · exact (opens_int Tryz.underlying3)
    refine opensFs_cons (G := fun q : Int => (Lit.int .i64 q).wf = true) (G' := fun p : Int × ByteArray × List GWire × GWire × Int × GTag => (fun q : Int => (Lit.int .i64 q).wf = true) p.1 ∧ (fun p : ByteArray × List GWire × GWire × Int × GTag => (fun q : ByteArray => q.size ≤ 9223372036854775807) p.1 ∧ (fun p : List GWire × GWire × Int × GTag => (fun q : List GWire => (q.length ≤ 9223372036854775807 ∧ ∀ y ∈ q, Gd_Wire y)) p.1 ∧ (fun p : GWire × Int × GTag => (fun q : GWire => Gd_Wire q) p.1 ∧ (fun p : Int × GTag => (fun q : Int => (Lit.int .i64 q).wf = true) p.1 ∧ (fun p : GTag => Gd_Tag p) p.2) p.2) p.2) p.2) p.2) ?_ ?_ ?_ ?_
    · rfl
    · kernel_rfl
    · exact (opens_int Tryz.underlying3)
    refine opensFs_cons (G := fun q : Int => (Lit.int .i64 q).wf = true) (G' := fun p : ByteArray × List GWire × GWire × Int × GTag => (fun q : ByteArray => q.size ≤ 9223372036854775807) p.1 ∧ (fun p : List GWire × GWire × Int × GTag => (fun q : List GWire => (q.length ≤ 9223372036854775807 ∧ ∀ y ∈ q, Gd_Wire y)) p.1 ∧ (fun p : GWire × Int × GTag => (fun q : GWire => Gd_Wire q) p.1 ∧ (fun p : Int × GTag => (fun q : Int => (Lit.int .i64 q).wf = true) p.1 ∧ (fun p : GTag => Gd_Tag p) p.2) p.2) p.2) p.2) ?_ ?_ ?_ ?_
    · rfl
    · kernel_rfl
    · exact (opens_int Tryz.underlying3)
    refine opensFs_cons (G := fun q : ByteArray => q.size ≤ 9223372036854775807) (G' := fun p : List GWire × GWire × Int × GTag => (fun q : List GWire => (q.length ≤ 9223372036854775807 ∧ ∀ y ∈ q, Gd_Wire y)) p.1 ∧ (fun p : GWire × Int × GTag => (fun q : GWire => Gd_Wire q) p.1 ∧ (fun p : Int × GTag => (fun q : Int => (Lit.int .i64 q).wf = true) p.1 ∧ (fun p : GTag => Gd_Tag p) p.2) p.2) p.2) ?_ ?_ ?_ ?_
    · rfl
    · kernel_rfl
    · exact (opens_string Tryz.underlying9)
    refine opensFs_cons (G := fun q : List GWire => (q.length ≤ 9223372036854775807 ∧ ∀ y ∈ q, Gd_Wire y)) (G' := fun p : GWire × Int × GTag => (fun q : GWire => Gd_Wire q) p.1 ∧ (fun p : Int × GTag => (fun q : Int => (Lit.int .i64 q).wf = true) p.1 ∧ (fun p : GTag => Gd_Tag p) p.2) p.2) ?_ ?_ ?_ ?_
    · rfl
    · kernel_rfl
    · exact (opens_slice zWire Tryz.underlying56 (by kernel_rfl) opens_Wire)
    refine opensFs_cons (G := fun q : GWire => Gd_Wire q) (G' := fun p : Int × GTag => (fun q : Int => (Lit.int .i64 q).wf = true) p.1 ∧ (fun p : GTag => Gd_Tag p) p.2) ?_ ?_ ?_ ?_
    · rfl
    · kernel_rfl
    · exact opens_Wire
    refine opensFs_cons (G := fun q : Int => (Lit.int .i64 q).wf = true) (G' := fun p : GTag => Gd_Tag p) ?_ ?_ ?_ ?_
    · rfl
    · kernel_rfl
    · exact (opens_int Tryz.underlying3)
    refine opensFs_one ?_ ?_ ?_
    · rfl
    · kernel_rfl
    · exact opens_Tag
  exact opens_iso (fun x : GMessage => (x.Kind, x.Pos, x.Answer, x.Question, x.Name, x.Args, x.Value, x.Count, x.Tag)) (fun p => ⟨p.1, p.2.1, p.2.2.1, p.2.2.2.1, p.2.2.2.2.1, p.2.2.2.2.2.1, p.2.2.2.2.2.2.1, p.2.2.2.2.2.2.2.1, p.2.2.2.2.2.2.2.2⟩) (fun _ => rfl) h
theorem opens_Outgoing : Opens Tryz.prog 229 kl_Outgoing Gd_Outgoing := by
  have h : Opens Tryz.prog 229 (Kn.pair Kn.int kl_Message) (fun p : Int × GMessage => (fun q : Int => (Lit.int .i64 q).wf = true) p.1 ∧ (fun p : GMessage => Gd_Message p) p.2) := by
    refine opens_struct Tryz.underlying229 (by kernel_rfl) ?_
    refine opensFs_cons (G := fun q : Int => (Lit.int .i64 q).wf = true) (G' := fun p : GMessage => Gd_Message p) ?_ ?_ ?_ ?_
    · rfl
    · kernel_rfl
    · exact (opens_int Tryz.underlying3)
    refine opensFs_one ?_ ?_ ?_
    · rfl
    · kernel_rfl
    · exact opens_Message
  exact opens_iso (fun x : GOutgoing => (x.To, x.Message)) (fun p => ⟨p.1, p.2⟩) (fun _ => rfl) h
theorem opens_Vat : Opens Tryz.prog 55 kl_Vat Gd_Vat := by
  have h : Opens Tryz.prog 55 (Kn.pair Kn.int (Kn.pair (Kn.slice 218 kl_Entity) (Kn.pair (Kn.slice 221 kl_Sent) (Kn.pair (Kn.slice 226 kl_Link) (Kn.slice 229 kl_Outgoing))))) (fun p : Int × List GEntity × List GSent × List GLink × List GOutgoing => (fun q : Int => (Lit.int .i64 q).wf = true) p.1 ∧ (fun p : List GEntity × List GSent × List GLink × List GOutgoing => (fun q : List GEntity => (q.length ≤ 9223372036854775807 ∧ ∀ y ∈ q, Gd_Entity y)) p.1 ∧ (fun p : List GSent × List GLink × List GOutgoing => (fun q : List GSent => (q.length ≤ 9223372036854775807 ∧ ∀ y ∈ q, Gd_Sent y)) p.1 ∧ (fun p : List GLink × List GOutgoing => (fun q : List GLink => (q.length ≤ 9223372036854775807 ∧ ∀ y ∈ q, Gd_Link y)) p.1 ∧ (fun p : List GOutgoing => (p.length ≤ 9223372036854775807 ∧ ∀ y ∈ p, Gd_Outgoing y)) p.2) p.2) p.2) p.2) := by
    refine opens_struct Tryz.underlying55 (by kernel_rfl) ?_
    refine opensFs_cons (G := fun q : Int => (Lit.int .i64 q).wf = true) (G' := fun p : List GEntity × List GSent × List GLink × List GOutgoing => (fun q : List GEntity => (q.length ≤ 9223372036854775807 ∧ ∀ y ∈ q, Gd_Entity y)) p.1 ∧ (fun p : List GSent × List GLink × List GOutgoing => (fun q : List GSent => (q.length ≤ 9223372036854775807 ∧ ∀ y ∈ q, Gd_Sent y)) p.1 ∧ (fun p : List GLink × List GOutgoing => (fun q : List GLink => (q.length ≤ 9223372036854775807 ∧ ∀ y ∈ q, Gd_Link y)) p.1 ∧ (fun p : List GOutgoing => (p.length ≤ 9223372036854775807 ∧ ∀ y ∈ p, Gd_Outgoing y)) p.2) p.2) p.2) ?_ ?_ ?_ ?_
    · rfl
    · kernel_rfl
    · exact (opens_int Tryz.underlying3)
    refine opensFs_cons (G := fun q : List GEntity => (q.length ≤ 9223372036854775807 ∧ ∀ y ∈ q, Gd_Entity y)) (G' := fun p : List GSent × List GLink × List GOutgoing => (fun q : List GSent => (q.length ≤ 9223372036854775807 ∧ ∀ y ∈ q, Gd_Sent y)) p.1 ∧ (fun p : List GLink × List GOutgoing => (fun q : List GLink => (q.length ≤ 9223372036854775807 ∧ ∀ y ∈ q, Gd_Link y)) p.1 ∧ (fun p : List GOutgoing => (p.length ≤ 9223372036854775807 ∧ ∀ y ∈ p, Gd_Outgoing y)) p.2) p.2) ?_ ?_ ?_ ?_
    · rfl
    · kernel_rfl
    · exact (opens_slice zEntity Tryz.underlying50 (by kernel_rfl) opens_Entity)
    refine opensFs_cons (G := fun q : List GSent => (q.length ≤ 9223372036854775807 ∧ ∀ y ∈ q, Gd_Sent y)) (G' := fun p : List GLink × List GOutgoing => (fun q : List GLink => (q.length ≤ 9223372036854775807 ∧ ∀ y ∈ q, Gd_Link y)) p.1 ∧ (fun p : List GOutgoing => (p.length ≤ 9223372036854775807 ∧ ∀ y ∈ p, Gd_Outgoing y)) p.2) ?_ ?_ ?_ ?_
    · rfl
    · kernel_rfl
    · exact (opens_slice zSent Tryz.underlying51 (by kernel_rfl) opens_Sent)
    refine opensFs_cons (G := fun q : List GLink => (q.length ≤ 9223372036854775807 ∧ ∀ y ∈ q, Gd_Link y)) (G' := fun p : List GOutgoing => (p.length ≤ 9223372036854775807 ∧ ∀ y ∈ p, Gd_Outgoing y)) ?_ ?_ ?_ ?_
    · rfl
    · kernel_rfl
    · exact (opens_slice zLink Tryz.underlying52 (by kernel_rfl) opens_Link)
    refine opensFs_one ?_ ?_ ?_
    · rfl
    · kernel_rfl
    · exact (opens_slice zOutgoing Tryz.underlying53 (by kernel_rfl) opens_Outgoing)
  exact opens_iso (fun x : GVat => (x.Id, x.Entities, x.Loop, x.Links, x.Out)) (fun p => ⟨p.1, p.2.1, p.2.2.1, p.2.2.2.1, p.2.2.2.2⟩) (fun _ => rfl) h
theorem opens_Channel : Opens Tryz.prog 192 kl_Channel Gd_Channel := by
  have h : Opens Tryz.prog 192 (Kn.pair Kn.int (Kn.pair Kn.int (Kn.slice 60 kl_Message))) (fun p : Int × Int × List GMessage => (fun q : Int => (Lit.int .i64 q).wf = true) p.1 ∧ (fun p : Int × List GMessage => (fun q : Int => (Lit.int .i64 q).wf = true) p.1 ∧ (fun p : List GMessage => (p.length ≤ 9223372036854775807 ∧ ∀ y ∈ p, Gd_Message y)) p.2) p.2) := by
    refine opens_struct Tryz.underlying192 (by kernel_rfl) ?_
    refine opensFs_cons (G := fun q : Int => (Lit.int .i64 q).wf = true) (G' := fun p : Int × List GMessage => (fun q : Int => (Lit.int .i64 q).wf = true) p.1 ∧ (fun p : List GMessage => (p.length ≤ 9223372036854775807 ∧ ∀ y ∈ p, Gd_Message y)) p.2) ?_ ?_ ?_ ?_
    · rfl
    · kernel_rfl
    · exact (opens_int Tryz.underlying3)
    refine opensFs_cons (G := fun q : Int => (Lit.int .i64 q).wf = true) (G' := fun p : List GMessage => (p.length ≤ 9223372036854775807 ∧ ∀ y ∈ p, Gd_Message y)) ?_ ?_ ?_ ?_
    · rfl
    · kernel_rfl
    · exact (opens_int Tryz.underlying3)
    refine opensFs_one ?_ ?_ ?_
    · rfl
    · kernel_rfl
    · exact (opens_slice zMessage Tryz.underlying190 (by kernel_rfl) opens_Message)
  exact opens_iso (fun x : GChannel => (x.From, x.To, x.List)) (fun p => ⟨p.1, p.2.1, p.2.2⟩) (fun _ => rfl) h
theorem opens_Note : Opens Tryz.prog 200 kl_Note Gd_Note := by
  have h : Opens Tryz.prog 200 (Kn.pair Kn.int (Kn.pair Kn.int (Kn.pair Kn.int kl_Tag))) (fun p : Int × Int × Int × GTag => (fun q : Int => (Lit.int .i64 q).wf = true) p.1 ∧ (fun p : Int × Int × GTag => (fun q : Int => (Lit.int .i64 q).wf = true) p.1 ∧ (fun p : Int × GTag => (fun q : Int => (Lit.int .i64 q).wf = true) p.1 ∧ (fun p : GTag => Gd_Tag p) p.2) p.2) p.2) := by
    refine opens_struct Tryz.underlying200 (by kernel_rfl) ?_
    refine opensFs_cons (G := fun q : Int => (Lit.int .i64 q).wf = true) (G' := fun p : Int × Int × GTag => (fun q : Int => (Lit.int .i64 q).wf = true) p.1 ∧ (fun p : Int × GTag => (fun q : Int => (Lit.int .i64 q).wf = true) p.1 ∧ (fun p : GTag => Gd_Tag p) p.2) p.2) ?_ ?_ ?_ ?_
    · rfl
    · kernel_rfl
    · exact (opens_int Tryz.underlying3)
    refine opensFs_cons (G := fun q : Int => (Lit.int .i64 q).wf = true) (G' := fun p : Int × GTag => (fun q : Int => (Lit.int .i64 q).wf = true) p.1 ∧ (fun p : GTag => Gd_Tag p) p.2) ?_ ?_ ?_ ?_
    · rfl
    · kernel_rfl
    · exact (opens_int Tryz.underlying3)
    refine opensFs_cons (G := fun q : Int => (Lit.int .i64 q).wf = true) (G' := fun p : GTag => Gd_Tag p) ?_ ?_ ?_ ?_
    · rfl
    · kernel_rfl
    · exact (opens_int Tryz.underlying3)
    refine opensFs_one ?_ ?_ ?_
    · rfl
    · kernel_rfl
    · exact opens_Tag
  exact opens_iso (fun x : GNote => (x.Kind, x.Vat, x.Entity, x.Tag)) (fun p => ⟨p.1, p.2.1, p.2.2.1, p.2.2.2⟩) (fun _ => rfl) h
theorem opens_World : Opens Tryz.prog 27 kl_World Gd_World := by
  have h : Opens Tryz.prog 27 (Kn.pair (Kn.slice 125 kl_Script) (Kn.pair (Kn.slice 55 kl_Vat) (Kn.pair (Kn.slice 192 kl_Channel) (Kn.pair (Kn.slice 200 kl_Note) Kn.int)))) (fun p : List GScript × List GVat × List GChannel × List GNote × Int => (fun q : List GScript => (q.length ≤ 9223372036854775807 ∧ ∀ y ∈ q, Gd_Script y)) p.1 ∧ (fun p : List GVat × List GChannel × List GNote × Int => (fun q : List GVat => (q.length ≤ 9223372036854775807 ∧ ∀ y ∈ q, Gd_Vat y)) p.1 ∧ (fun p : List GChannel × List GNote × Int => (fun q : List GChannel => (q.length ≤ 9223372036854775807 ∧ ∀ y ∈ q, Gd_Channel y)) p.1 ∧ (fun p : List GNote × Int => (fun q : List GNote => (q.length ≤ 9223372036854775807 ∧ ∀ y ∈ q, Gd_Note y)) p.1 ∧ (fun p : Int => (Lit.int .i64 p).wf = true) p.2) p.2) p.2) p.2) := by
    refine opens_struct Tryz.underlying27 (by kernel_rfl) ?_
    refine opensFs_cons (G := fun q : List GScript => (q.length ≤ 9223372036854775807 ∧ ∀ y ∈ q, Gd_Script y)) (G' := fun p : List GVat × List GChannel × List GNote × Int => (fun q : List GVat => (q.length ≤ 9223372036854775807 ∧ ∀ y ∈ q, Gd_Vat y)) p.1 ∧ (fun p : List GChannel × List GNote × Int => (fun q : List GChannel => (q.length ≤ 9223372036854775807 ∧ ∀ y ∈ q, Gd_Channel y)) p.1 ∧ (fun p : List GNote × Int => (fun q : List GNote => (q.length ≤ 9223372036854775807 ∧ ∀ y ∈ q, Gd_Note y)) p.1 ∧ (fun p : Int => (Lit.int .i64 p).wf = true) p.2) p.2) p.2) ?_ ?_ ?_ ?_
    · rfl
    · kernel_rfl
    · exact (opens_slice zScript Tryz.underlying22 (by kernel_rfl) opens_Script)
    refine opensFs_cons (G := fun q : List GVat => (q.length ≤ 9223372036854775807 ∧ ∀ y ∈ q, Gd_Vat y)) (G' := fun p : List GChannel × List GNote × Int => (fun q : List GChannel => (q.length ≤ 9223372036854775807 ∧ ∀ y ∈ q, Gd_Channel y)) p.1 ∧ (fun p : List GNote × Int => (fun q : List GNote => (q.length ≤ 9223372036854775807 ∧ ∀ y ∈ q, Gd_Note y)) p.1 ∧ (fun p : Int => (Lit.int .i64 p).wf = true) p.2) p.2) ?_ ?_ ?_ ?_
    · rfl
    · kernel_rfl
    · exact (opens_slice zVat Tryz.underlying23 (by kernel_rfl) opens_Vat)
    refine opensFs_cons (G := fun q : List GChannel => (q.length ≤ 9223372036854775807 ∧ ∀ y ∈ q, Gd_Channel y)) (G' := fun p : List GNote × Int => (fun q : List GNote => (q.length ≤ 9223372036854775807 ∧ ∀ y ∈ q, Gd_Note y)) p.1 ∧ (fun p : Int => (Lit.int .i64 p).wf = true) p.2) ?_ ?_ ?_ ?_
    · rfl
    · kernel_rfl
    · exact (opens_slice zChannel Tryz.underlying24 (by kernel_rfl) opens_Channel)
    refine opensFs_cons (G := fun q : List GNote => (q.length ≤ 9223372036854775807 ∧ ∀ y ∈ q, Gd_Note y)) (G' := fun p : Int => (Lit.int .i64 p).wf = true) ?_ ?_ ?_ ?_
    · rfl
    · kernel_rfl
    · exact (opens_slice zNote Tryz.underlying25 (by kernel_rfl) opens_Note)
    refine opensFs_one ?_ ?_ ?_
    · rfl
    · kernel_rfl
    · exact (opens_int Tryz.underlying3)
  exact opens_iso (fun x : GWorld => (x.Library, x.Vats, x.Channels, x.Notes, x.Strays)) (fun p => ⟨p.1, p.2.1, p.2.2.1, p.2.2.2.1, p.2.2.2.2⟩) (fun _ => rfl) h
end Go.Proofs.YtfnedoiplblldaaGreatK
