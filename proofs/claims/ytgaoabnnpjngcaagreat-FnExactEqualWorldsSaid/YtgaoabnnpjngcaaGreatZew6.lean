/- What the row needs, packed. No conditions beyond those that each law names. -/
import Derived.Test.YtgaoabnnpjngcaaGreatZew5
import Derived.Test.YtgaoabnnpjngcaaGreatZew1
import Derived.KernelRfl
namespace Go.Proofs.YtgaoabnnpjngcaaGreatK
open Go.RowKit Go.Proofs.YtgaoabnnpjngcaaGreatSep Go.Proofs.YtgaoabnnpjngcaaGreatT Go.Proofs.YtgaoabnnpjngcaaGreatOpen
theorem opens_Instr : Opens Tryz.prog 244 jT Gd_Instr := by
 have h : Opens Tryz.prog 244 (Kn.pair Kn.int (Kn.pair Kn.int (Kn.pair Kn.int (Kn.pair Kn.int (Kn.pair Kn.int Kn.string))))) (fun p : Int × Int × Int × Int × Int × ByteArray => (fun q : Int => (Lit.int .i64 q).wf = true) p.1 ∧ (fun p : Int × Int × Int × Int × ByteArray => (fun q : Int => (Lit.int .i64 q).wf = true) p.1 ∧ (fun p : Int × Int × Int × ByteArray => (fun q : Int => (Lit.int .i64 q).wf = true) p.1 ∧ (fun p : Int × Int × ByteArray => (fun q : Int => (Lit.int .i64 q).wf = true) p.1 ∧ (fun p : Int × ByteArray => (fun q : Int => (Lit.int .i64 q).wf = true) p.1 ∧ (fun p : ByteArray => p.size ≤ 9223372036854775807) p.2) p.2) p.2) p.2) p.2) := by
  refine fF Tryz.underlying244 kR ?_
  refine bC (G := fun q : Int => (Lit.int .i64 q).wf = true) (G' := fun p : Int × Int × Int × Int × ByteArray => (fun q : Int => (Lit.int .i64 q).wf = true) p.1 ∧ (fun p : Int × Int × Int × ByteArray => (fun q : Int => (Lit.int .i64 q).wf = true) p.1 ∧ (fun p : Int × Int × ByteArray => (fun q : Int => (Lit.int .i64 q).wf = true) p.1 ∧ (fun p : Int × ByteArray => (fun q : Int => (Lit.int .i64 q).wf = true) p.1 ∧ (fun p : ByteArray => p.size ≤ 9223372036854775807) p.2) p.2) p.2) p.2) ?_ ?_ ?_ ?_
  ·rfl
  ·kernel_rfl
  ·exact (dG Tryz.underlying3)
  refine bC (G := fun q : Int => (Lit.int .i64 q).wf = true) (G' := fun p : Int × Int × Int × ByteArray => (fun q : Int => (Lit.int .i64 q).wf = true) p.1 ∧ (fun p : Int × Int × ByteArray => (fun q : Int => (Lit.int .i64 q).wf = true) p.1 ∧ (fun p : Int × ByteArray => (fun q : Int => (Lit.int .i64 q).wf = true) p.1 ∧ (fun p : ByteArray => p.size ≤ 9223372036854775807) p.2) p.2) p.2) ?_ ?_ ?_ ?_
  ·rfl
  ·kernel_rfl
  ·exact (dG Tryz.underlying3)
  refine bC (G := fun q : Int => (Lit.int .i64 q).wf = true) (G' := fun p : Int × Int × ByteArray => (fun q : Int => (Lit.int .i64 q).wf = true) p.1 ∧ (fun p : Int × ByteArray => (fun q : Int => (Lit.int .i64 q).wf = true) p.1 ∧ (fun p : ByteArray => p.size ≤ 9223372036854775807) p.2) p.2) ?_ ?_ ?_ ?_
  ·rfl
  ·kernel_rfl
  ·exact (dG Tryz.underlying3)
  refine bC (G := fun q : Int => (Lit.int .i64 q).wf = true) (G' := fun p : Int × ByteArray => (fun q : Int => (Lit.int .i64 q).wf = true) p.1 ∧ (fun p : ByteArray => p.size ≤ 9223372036854775807) p.2) ?_ ?_ ?_ ?_
  ·rfl
  ·kernel_rfl
  ·exact (dG Tryz.underlying3)
  refine bC (G := fun q : Int => (Lit.int .i64 q).wf = true) (G' := fun p : ByteArray => p.size ≤ 9223372036854775807) ?_ ?_ ?_ ?_
  ·rfl
  ·kernel_rfl
  ·exact (dG Tryz.underlying3)
  refine gF ?_ ?_ ?_
  ·rfl
  ·kernel_rfl
  ·exact (mP Tryz.underlying9)
 exact iA (fun x : GInstr => (x.Op, x.A, x.B, x.C, x.D, x.Name)) (fun p => ⟨p.1, p.2.1, p.2.2.1, p.2.2.2.1, p.2.2.2.2.1, p.2.2.2.2.2⟩) (fun _ => rfl) h
theorem opens_Method : Opens Tryz.prog 198 jC Gd_Method := by
 have h : Opens Tryz.prog 198 (Kn.pair Kn.string (Kn.slice 244 jT)) (fun p : ByteArray × List GInstr => (fun q : ByteArray => q.size ≤ 9223372036854775807) p.1 ∧ (fun p : List GInstr => (p.length ≤ 9223372036854775807 ∧ ∀ y ∈ p, Gd_Instr y)) p.2) := by
  refine fF Tryz.underlying198 kR ?_
  refine bC (G := fun q : ByteArray => q.size ≤ 9223372036854775807) (G' := fun p : List GInstr => (p.length ≤ 9223372036854775807 ∧ ∀ y ∈ p, Gd_Instr y)) ?_ ?_ ?_ ?_
  ·rfl
  ·kernel_rfl
  ·exact (mP Tryz.underlying9)
  refine gF ?_ ?_ ?_
  ·rfl
  ·kernel_rfl
  ·exact (fO zInstr Tryz.underlying196 kR opens_Instr)
 exact iA (fun x : GMethod => (x.Name, x.Code)) (fun p => ⟨p.1, p.2⟩) (fun _ => rfl) h
theorem opens_Script : Opens Tryz.prog 86 jU Gd_Script := by
 have h : Opens Tryz.prog 86 (Kn.pair Kn.string (Kn.slice 198 jC)) (fun p : ByteArray × List GMethod => (fun q : ByteArray => q.size ≤ 9223372036854775807) p.1 ∧ (fun p : List GMethod => (p.length ≤ 9223372036854775807 ∧ ∀ y ∈ p, Gd_Method y)) p.2) := by
  refine fF Tryz.underlying86 kR ?_
  refine bC (G := fun q : ByteArray => q.size ≤ 9223372036854775807) (G' := fun p : List GMethod => (p.length ≤ 9223372036854775807 ∧ ∀ y ∈ p, Gd_Method y)) ?_ ?_ ?_ ?_
  ·rfl
  ·kernel_rfl
  ·exact (mP Tryz.underlying9)
  refine gF ?_ ?_ ?_
  ·rfl
  ·kernel_rfl
  ·exact (fO zMethod Tryz.underlying84 kR opens_Method)
 exact iA (fun x : GScript => (x.Name, x.Methods)) (fun p => ⟨p.1, p.2⟩) (fun _ => rfl) h
theorem opens_Value : Opens Tryz.prog 201 iJ iP := by
 have h : Opens Tryz.prog 201 (Kn.pair Kn.int Kn.int) (fun p : Int × Int => (fun q : Int => (Lit.int .i64 q).wf = true) p.1 ∧ (fun p : Int => (Lit.int .i64 p).wf = true) p.2) := by
  refine fF Tryz.underlying201 kR ?_
  refine bC (G := fun q : Int => (Lit.int .i64 q).wf = true) (G' := fun p : Int => (Lit.int .i64 p).wf = true) ?_ ?_ ?_ ?_
  ·rfl
  ·kernel_rfl
  ·exact (dG Tryz.underlying3)
  refine gF ?_ ?_ ?_
  ·rfl
  ·kernel_rfl
  ·exact (dG Tryz.underlying3)
 exact iA (fun x : GValue => (x.Kind, x.N)) (fun p => ⟨p.1, p.2⟩) (fun _ => rfl) h
theorem opens_Tag : Opens Tryz.prog 105 kl_Tag jH := by
 have h : Opens Tryz.prog 105 (Kn.pair Kn.int (Kn.pair Kn.int Kn.int)) (fun p : Int × Int × Int => (fun q : Int => (Lit.int .i64 q).wf = true) p.1 ∧ (fun p : Int × Int => (fun q : Int => (Lit.int .i64 q).wf = true) p.1 ∧ (fun p : Int => (Lit.int .i64 p).wf = true) p.2) p.2) := by
  refine fF Tryz.underlying105 kR ?_
  refine bC (G := fun q : Int => (Lit.int .i64 q).wf = true) (G' := fun p : Int × Int => (fun q : Int => (Lit.int .i64 q).wf = true) p.1 ∧ (fun p : Int => (Lit.int .i64 p).wf = true) p.2) ?_ ?_ ?_ ?_
  ·rfl
  ·kernel_rfl
  ·exact (dG Tryz.underlying3)
  refine bC (G := fun q : Int => (Lit.int .i64 q).wf = true) (G' := fun p : Int => (Lit.int .i64 p).wf = true) ?_ ?_ ?_ ?_
  ·rfl
  ·kernel_rfl
  ·exact (dG Tryz.underlying3)
  refine gF ?_ ?_ ?_
  ·rfl
  ·kernel_rfl
  ·exact (dG Tryz.underlying3)
 exact iA (fun x : GTag => (x.Vat, x.Entity, x.Seq)) (fun p => ⟨p.1, p.2.1, p.2.2⟩) (fun _ => rfl) h
theorem opens_Sent : Opens Tryz.prog 207 jG j3 := by
 have h : Opens Tryz.prog 207 (Kn.pair Kn.int (Kn.pair Kn.string (Kn.pair (Kn.slice 201 iJ) (Kn.pair Kn.int kl_Tag)))) (fun p : Int × ByteArray × List GValue × Int × GTag => (fun q : Int => (Lit.int .i64 q).wf = true) p.1 ∧ (fun p : ByteArray × List GValue × Int × GTag => (fun q : ByteArray => q.size ≤ 9223372036854775807) p.1 ∧ (fun p : List GValue × Int × GTag => (fun q : List GValue => (q.length ≤ 9223372036854775807 ∧ ∀ y ∈ q, iP y)) p.1 ∧ (fun p : Int × GTag => (fun q : Int => (Lit.int .i64 q).wf = true) p.1 ∧ (fun p : GTag => jH p) p.2) p.2) p.2) p.2) := by
  refine fF Tryz.underlying207 kR ?_
  refine bC (G := fun q : Int => (Lit.int .i64 q).wf = true) (G' := fun p : ByteArray × List GValue × Int × GTag => (fun q : ByteArray => q.size ≤ 9223372036854775807) p.1 ∧ (fun p : List GValue × Int × GTag => (fun q : List GValue => (q.length ≤ 9223372036854775807 ∧ ∀ y ∈ q, iP y)) p.1 ∧ (fun p : Int × GTag => (fun q : Int => (Lit.int .i64 q).wf = true) p.1 ∧ (fun p : GTag => jH p) p.2) p.2) p.2) ?_ ?_ ?_ ?_
  ·rfl
  ·kernel_rfl
  ·exact (dG Tryz.underlying3)
  refine bC (G := fun q : ByteArray => q.size ≤ 9223372036854775807) (G' := fun p : List GValue × Int × GTag => (fun q : List GValue => (q.length ≤ 9223372036854775807 ∧ ∀ y ∈ q, iP y)) p.1 ∧ (fun p : Int × GTag => (fun q : Int => (Lit.int .i64 q).wf = true) p.1 ∧ (fun p : GTag => jH p) p.2) p.2) ?_ ?_ ?_ ?_
  ·rfl
  ·kernel_rfl
  ·exact (mP Tryz.underlying9)
  refine bC (G := fun q : List GValue => (q.length ≤ 9223372036854775807 ∧ ∀ y ∈ q, iP y)) (G' := fun p : Int × GTag => (fun q : Int => (Lit.int .i64 q).wf = true) p.1 ∧ (fun p : GTag => jH p) p.2) ?_ ?_ ?_ ?_
  ·rfl
  ·kernel_rfl
  ·exact (fO zValue Tryz.underlying200 kR opens_Value)
  refine bC (G := fun q : Int => (Lit.int .i64 q).wf = true) (G' := fun p : GTag => jH p) ?_ ?_ ?_ ?_
  ·rfl
  ·kernel_rfl
  ·exact (dG Tryz.underlying3)
  refine gF ?_ ?_ ?_
  ·rfl
  ·kernel_rfl
  ·exact opens_Tag
 exact iA (fun x : GSent => (x.Target, x.Name, x.bD, x.Result, x.Tag)) (fun p => ⟨p.1, p.2.1, p.2.2.1, p.2.2.2.1, p.2.2.2.2⟩) (fun _ => rfl) h
theorem opens_Asker : Opens Tryz.prog 247 kH lJ := by
 have h : Opens Tryz.prog 247 (Kn.pair Kn.int Kn.int) (fun p : Int × Int => (fun q : Int => (Lit.int .i64 q).wf = true) p.1 ∧ (fun p : Int => (Lit.int .i64 p).wf = true) p.2) := by
  refine fF Tryz.underlying247 kR ?_
  refine bC (G := fun q : Int => (Lit.int .i64 q).wf = true) (G' := fun p : Int => (Lit.int .i64 p).wf = true) ?_ ?_ ?_ ?_
  ·rfl
  ·kernel_rfl
  ·exact (dG Tryz.underlying3)
  refine gF ?_ ?_ ?_
  ·rfl
  ·kernel_rfl
  ·exact (dG Tryz.underlying3)
 exact iA (fun x : GAsker => (x.dZ, x.Question)) (fun p => ⟨p.1, p.2⟩) (fun _ => rfl) h
theorem opens_Entity : Opens Tryz.prog 204 jD oM := by
 have h : Opens Tryz.prog 204 (Kn.pair Kn.int (Kn.pair Kn.int (Kn.pair (Kn.slice 201 iJ) (Kn.pair Kn.int (Kn.pair iJ (Kn.pair (Kn.slice 207 jG) (Kn.pair (Kn.slice 247 kH) (Kn.pair Kn.int (Kn.pair Kn.int (Kn.pair Kn.int Kn.int)))))))))) (fun p : Int × Int × List GValue × Int × GValue × List GSent × List GAsker × Int × Int × Int × Int => (fun q : Int => (Lit.int .i64 q).wf = true) p.1 ∧ (fun p : Int × List GValue × Int × GValue × List GSent × List GAsker × Int × Int × Int × Int => (fun q : Int => (Lit.int .i64 q).wf = true) p.1 ∧ (fun p : List GValue × Int × GValue × List GSent × List GAsker × Int × Int × Int × Int => (fun q : List GValue => (q.length ≤ 9223372036854775807 ∧ ∀ y ∈ q, iP y)) p.1 ∧ (fun p : Int × GValue × List GSent × List GAsker × Int × Int × Int × Int => (fun q : Int => (Lit.int .i64 q).wf = true) p.1 ∧ (fun p : GValue × List GSent × List GAsker × Int × Int × Int × Int => (fun q : GValue => iP q) p.1 ∧ (fun p : List GSent × List GAsker × Int × Int × Int × Int => (fun q : List GSent => (q.length ≤ 9223372036854775807 ∧ ∀ y ∈ q, j3 y)) p.1 ∧ (fun p : List GAsker × Int × Int × Int × Int => (fun q : List GAsker => (q.length ≤ 9223372036854775807 ∧ ∀ y ∈ q, lJ y)) p.1 ∧ (fun p : Int × Int × Int × Int => (fun q : Int => (Lit.int .i64 q).wf = true) p.1 ∧ (fun p : Int × Int × Int => (fun q : Int => (Lit.int .i64 q).wf = true) p.1 ∧ (fun p : Int × Int => (fun q : Int => (Lit.int .i64 q).wf = true) p.1 ∧ (fun p : Int => (Lit.int .i64 p).wf = true) p.2) p.2) p.2) p.2) p.2) p.2) p.2) p.2) p.2) p.2) := by
  refine fF Tryz.underlying204 kR ?_
  refine bC (G := fun q : Int => (Lit.int .i64 q).wf = true) (G' := fun p : Int × List GValue × Int × GValue × List GSent × List GAsker × Int × Int × Int × Int => (fun q : Int => (Lit.int .i64 q).wf = true) p.1 ∧ (fun p : List GValue × Int × GValue × List GSent × List GAsker × Int × Int × Int × Int => (fun q : List GValue => (q.length ≤ 9223372036854775807 ∧ ∀ y ∈ q, iP y)) p.1 ∧ (fun p : Int × GValue × List GSent × List GAsker × Int × Int × Int × Int => (fun q : Int => (Lit.int .i64 q).wf = true) p.1 ∧ (fun p : GValue × List GSent × List GAsker × Int × Int × Int × Int => (fun q : GValue => iP q) p.1 ∧ (fun p : List GSent × List GAsker × Int × Int × Int × Int => (fun q : List GSent => (q.length ≤ 9223372036854775807 ∧ ∀ y ∈ q, j3 y)) p.1 ∧ (fun p : List GAsker × Int × Int × Int × Int => (fun q : List GAsker => (q.length ≤ 9223372036854775807 ∧ ∀ y ∈ q, lJ y)) p.1 ∧ (fun p : Int × Int × Int × Int => (fun q : Int => (Lit.int .i64 q).wf = true) p.1 ∧ (fun p : Int × Int × Int => (fun q : Int => (Lit.int .i64 q).wf = true) p.1 ∧ (fun p : Int × Int => (fun q : Int => (Lit.int .i64 q).wf = true) p.1 ∧ (fun p : Int => (Lit.int .i64 p).wf = true) p.2) p.2) p.2) p.2) p.2) p.2) p.2) p.2) p.2) ?_ ?_ ?_ ?_
  ·rfl
  ·kernel_rfl
  ·exact (dG Tryz.underlying3)
  refine bC (G := fun q : Int => (Lit.int .i64 q).wf = true) (G' := fun p : List GValue × Int × GValue × List GSent × List GAsker × Int × Int × Int × Int => (fun q : List GValue => (q.length ≤ 9223372036854775807 ∧ ∀ y ∈ q, iP y)) p.1 ∧ (fun p : Int × GValue × List GSent × List GAsker × Int × Int × Int × Int => (fun q : Int => (Lit.int .i64 q).wf = true) p.1 ∧ (fun p : GValue × List GSent × List GAsker × Int × Int × Int × Int => (fun q : GValue => iP q) p.1 ∧ (fun p : List GSent × List GAsker × Int × Int × Int × Int => (fun q : List GSent => (q.length ≤ 9223372036854775807 ∧ ∀ y ∈ q, j3 y)) p.1 ∧ (fun p : List GAsker × Int × Int × Int × Int => (fun q : List GAsker => (q.length ≤ 9223372036854775807 ∧ ∀ y ∈ q, lJ y)) p.1 ∧ (fun p : Int × Int × Int × Int => (fun q : Int => (Lit.int .i64 q).wf = true) p.1 ∧ (fun p : Int × Int × Int => (fun q : Int => (Lit.int .i64 q).wf = true) p.1 ∧ (fun p : Int × Int => (fun q : Int => (Lit.int .i64 q).wf = true) p.1 ∧ (fun p : Int => (Lit.int .i64 p).wf = true) p.2) p.2) p.2) p.2) p.2) p.2) p.2) p.2) ?_ ?_ ?_ ?_
  ·rfl
  ·kernel_rfl
  ·exact (dG Tryz.underlying3)
  refine bC (G := fun q : List GValue => (q.length ≤ 9223372036854775807 ∧ ∀ y ∈ q, iP y)) (G' := fun p : Int × GValue × List GSent × List GAsker × Int × Int × Int × Int => (fun q : Int => (Lit.int .i64 q).wf = true) p.1 ∧ (fun p : GValue × List GSent × List GAsker × Int × Int × Int × Int => (fun q : GValue => iP q) p.1 ∧ (fun p : List GSent × List GAsker × Int × Int × Int × Int => (fun q : List GSent => (q.length ≤ 9223372036854775807 ∧ ∀ y ∈ q, j3 y)) p.1 ∧ (fun p : List GAsker × Int × Int × Int × Int => (fun q : List GAsker => (q.length ≤ 9223372036854775807 ∧ ∀ y ∈ q, lJ y)) p.1 ∧ (fun p : Int × Int × Int × Int => (fun q : Int => (Lit.int .i64 q).wf = true) p.1 ∧ (fun p : Int × Int × Int => (fun q : Int => (Lit.int .i64 q).wf = true) p.1 ∧ (fun p : Int × Int => (fun q : Int => (Lit.int .i64 q).wf = true) p.1 ∧ (fun p : Int => (Lit.int .i64 p).wf = true) p.2) p.2) p.2) p.2) p.2) p.2) p.2) ?_ ?_ ?_ ?_
  ·rfl
  ·kernel_rfl
  ·exact (fO zValue Tryz.underlying200 kR opens_Value)
  refine bC (G := fun q : Int => (Lit.int .i64 q).wf = true) (G' := fun p : GValue × List GSent × List GAsker × Int × Int × Int × Int => (fun q : GValue => iP q) p.1 ∧ (fun p : List GSent × List GAsker × Int × Int × Int × Int => (fun q : List GSent => (q.length ≤ 9223372036854775807 ∧ ∀ y ∈ q, j3 y)) p.1 ∧ (fun p : List GAsker × Int × Int × Int × Int => (fun q : List GAsker => (q.length ≤ 9223372036854775807 ∧ ∀ y ∈ q, lJ y)) p.1 ∧ (fun p : Int × Int × Int × Int => (fun q : Int => (Lit.int .i64 q).wf = true) p.1 ∧ (fun p : Int × Int × Int => (fun q : Int => (Lit.int .i64 q).wf = true) p.1 ∧ (fun p : Int × Int => (fun q : Int => (Lit.int .i64 q).wf = true) p.1 ∧ (fun p : Int => (Lit.int .i64 p).wf = true) p.2) p.2) p.2) p.2) p.2) p.2) ?_ ?_ ?_ ?_
  ·rfl
  ·kernel_rfl
  ·exact (dG Tryz.underlying3)
  refine bC (G := fun q : GValue => iP q) (G' := fun p : List GSent × List GAsker × Int × Int × Int × Int => (fun q : List GSent => (q.length ≤ 9223372036854775807 ∧ ∀ y ∈ q, j3 y)) p.1 ∧ (fun p : List GAsker × Int × Int × Int × Int => (fun q : List GAsker => (q.length ≤ 9223372036854775807 ∧ ∀ y ∈ q, lJ y)) p.1 ∧ (fun p : Int × Int × Int × Int => (fun q : Int => (Lit.int .i64 q).wf = true) p.1 ∧ (fun p : Int × Int × Int => (fun q : Int => (Lit.int .i64 q).wf = true) p.1 ∧ (fun p : Int × Int => (fun q : Int => (Lit.int .i64 q).wf = true) p.1 ∧ (fun p : Int => (Lit.int .i64 p).wf = true) p.2) p.2) p.2) p.2) p.2) ?_ ?_ ?_ ?_
  ·rfl
  ·kernel_rfl
  ·exact opens_Value
  refine bC (G := fun q : List GSent => (q.length ≤ 9223372036854775807 ∧ ∀ y ∈ q, j3 y)) (G' := fun p : List GAsker × Int × Int × Int × Int => (fun q : List GAsker => (q.length ≤ 9223372036854775807 ∧ ∀ y ∈ q, lJ y)) p.1 ∧ (fun p : Int × Int × Int × Int => (fun q : Int => (Lit.int .i64 q).wf = true) p.1 ∧ (fun p : Int × Int × Int => (fun q : Int => (Lit.int .i64 q).wf = true) p.1 ∧ (fun p : Int × Int => (fun q : Int => (Lit.int .i64 q).wf = true) p.1 ∧ (fun p : Int => (Lit.int .i64 p).wf = true) p.2) p.2) p.2) p.2) ?_ ?_ ?_ ?_
  ·rfl
  ·kernel_rfl
  ·exact (fO zSent Tryz.underlying89 kR opens_Sent)
  refine bC (G := fun q : List GAsker => (q.length ≤ 9223372036854775807 ∧ ∀ y ∈ q, lJ y)) (G' := fun p : Int × Int × Int × Int => (fun q : Int => (Lit.int .i64 q).wf = true) p.1 ∧ (fun p : Int × Int × Int => (fun q : Int => (Lit.int .i64 q).wf = true) p.1 ∧ (fun p : Int × Int => (fun q : Int => (Lit.int .i64 q).wf = true) p.1 ∧ (fun p : Int => (Lit.int .i64 p).wf = true) p.2) p.2) p.2) ?_ ?_ ?_ ?_
  ·rfl
  ·kernel_rfl
  ·exact (fO zAsker Tryz.underlying202 kR opens_Asker)
  refine bC (G := fun q : Int => (Lit.int .i64 q).wf = true) (G' := fun p : Int × Int × Int => (fun q : Int => (Lit.int .i64 q).wf = true) p.1 ∧ (fun p : Int × Int => (fun q : Int => (Lit.int .i64 q).wf = true) p.1 ∧ (fun p : Int => (Lit.int .i64 p).wf = true) p.2) p.2) ?_ ?_ ?_ ?_
  ·rfl
  ·kernel_rfl
  ·exact (dG Tryz.underlying3)
  refine bC (G := fun q : Int => (Lit.int .i64 q).wf = true) (G' := fun p : Int × Int => (fun q : Int => (Lit.int .i64 q).wf = true) p.1 ∧ (fun p : Int => (Lit.int .i64 p).wf = true) p.2) ?_ ?_ ?_ ?_
  ·rfl
  ·kernel_rfl
  ·exact (dG Tryz.underlying3)
  refine bC (G := fun q : Int => (Lit.int .i64 q).wf = true) (G' := fun p : Int => (Lit.int .i64 p).wf = true) ?_ ?_ ?_ ?_
  ·rfl
  ·kernel_rfl
  ·exact (dG Tryz.underlying3)
  refine gF ?_ ?_ ?_
  ·rfl
  ·kernel_rfl
  ·exact (dG Tryz.underlying3)
 exact iA (fun x : GEntity => (x.Kind, x.Script, x.eB, x.State, x.Value, x.Queue, x.bJ, x.dZ, x.Pos, x.Count, x.Sent)) (fun p => ⟨p.1, p.2.1, p.2.2.1, p.2.2.2.1, p.2.2.2.2.1, p.2.2.2.2.2.1, p.2.2.2.2.2.2.1, p.2.2.2.2.2.2.2.1, p.2.2.2.2.2.2.2.2.1, p.2.2.2.2.2.2.2.2.2.1, p.2.2.2.2.2.2.2.2.2.2⟩) (fun _ => rfl) h
theorem opens_Export : Opens Tryz.prog 249 jJ oN := by
 have h : Opens Tryz.prog 249 (Kn.pair Kn.int (Kn.pair Kn.int Kn.int)) (fun p : Int × Int × Int => (fun q : Int => (Lit.int .i64 q).wf = true) p.1 ∧ (fun p : Int × Int => (fun q : Int => (Lit.int .i64 q).wf = true) p.1 ∧ (fun p : Int => (Lit.int .i64 p).wf = true) p.2) p.2) := by
  refine fF Tryz.underlying249 kR ?_
  refine bC (G := fun q : Int => (Lit.int .i64 q).wf = true) (G' := fun p : Int × Int => (fun q : Int => (Lit.int .i64 q).wf = true) p.1 ∧ (fun p : Int => (Lit.int .i64 p).wf = true) p.2) ?_ ?_ ?_ ?_
  ·rfl
  ·kernel_rfl
  ·exact (dG Tryz.underlying3)
  refine bC (G := fun q : Int => (Lit.int .i64 q).wf = true) (G' := fun p : Int => (Lit.int .i64 p).wf = true) ?_ ?_ ?_ ?_
  ·rfl
  ·kernel_rfl
  ·exact (dG Tryz.underlying3)
  refine gF ?_ ?_ ?_
  ·rfl
  ·kernel_rfl
  ·exact (dG Tryz.underlying3)
 exact iA (fun x : GExport => (x.Pos, x.Entity, x.Count)) (fun p => ⟨p.1, p.2.1, p.2.2⟩) (fun _ => rfl) h
theorem opens_Question : Opens Tryz.prog 251 gM gQ := by
 have h : Opens Tryz.prog 251 (Kn.pair Kn.int Kn.int) (fun p : Int × Int => (fun q : Int => (Lit.int .i64 q).wf = true) p.1 ∧ (fun p : Int => (Lit.int .i64 p).wf = true) p.2) := by
  refine fF Tryz.underlying251 kR ?_
  refine bC (G := fun q : Int => (Lit.int .i64 q).wf = true) (G' := fun p : Int => (Lit.int .i64 p).wf = true) ?_ ?_ ?_ ?_
  ·rfl
  ·kernel_rfl
  ·exact (dG Tryz.underlying3)
  refine gF ?_ ?_ ?_
  ·rfl
  ·kernel_rfl
  ·exact (dG Tryz.underlying3)
 exact iA (fun x : GQuestion => (x.Id, x.Promise)) (fun p => ⟨p.1, p.2⟩) (fun _ => rfl) h
theorem opens_Link : Opens Tryz.prog 212 kY Gd_Link := by
 have h : Opens Tryz.prog 212 (Kn.pair Kn.int (Kn.pair Kn.bool (Kn.pair (Kn.slice 249 jJ) (Kn.pair Kn.int (Kn.pair (Kn.slice 251 gM) (Kn.pair Kn.int (Kn.slice 251 gM))))))) (fun p : Int × Bool × List GExport × Int × List GQuestion × Int × List GQuestion => (fun q : Int => (Lit.int .i64 q).wf = true) p.1 ∧ (fun p : Bool × List GExport × Int × List GQuestion × Int × List GQuestion => (fun q : Bool => True) p.1 ∧ (fun p : List GExport × Int × List GQuestion × Int × List GQuestion => (fun q : List GExport => (q.length ≤ 9223372036854775807 ∧ ∀ y ∈ q, oN y)) p.1 ∧ (fun p : Int × List GQuestion × Int × List GQuestion => (fun q : Int => (Lit.int .i64 q).wf = true) p.1 ∧ (fun p : List GQuestion × Int × List GQuestion => (fun q : List GQuestion => (q.length ≤ 9223372036854775807 ∧ ∀ y ∈ q, gQ y)) p.1 ∧ (fun p : Int × List GQuestion => (fun q : Int => (Lit.int .i64 q).wf = true) p.1 ∧ (fun p : List GQuestion => (p.length ≤ 9223372036854775807 ∧ ∀ y ∈ p, gQ y)) p.2) p.2) p.2) p.2) p.2) p.2) := by
  refine fF Tryz.underlying212 kR ?_
  refine bC (G := fun q : Int => (Lit.int .i64 q).wf = true) (G' := fun p : Bool × List GExport × Int × List GQuestion × Int × List GQuestion => (fun q : Bool => True) p.1 ∧ (fun p : List GExport × Int × List GQuestion × Int × List GQuestion => (fun q : List GExport => (q.length ≤ 9223372036854775807 ∧ ∀ y ∈ q, oN y)) p.1 ∧ (fun p : Int × List GQuestion × Int × List GQuestion => (fun q : Int => (Lit.int .i64 q).wf = true) p.1 ∧ (fun p : List GQuestion × Int × List GQuestion => (fun q : List GQuestion => (q.length ≤ 9223372036854775807 ∧ ∀ y ∈ q, gQ y)) p.1 ∧ (fun p : Int × List GQuestion => (fun q : Int => (Lit.int .i64 q).wf = true) p.1 ∧ (fun p : List GQuestion => (p.length ≤ 9223372036854775807 ∧ ∀ y ∈ p, gQ y)) p.2) p.2) p.2) p.2) p.2) ?_ ?_ ?_ ?_
  ·rfl
  ·kernel_rfl
  ·exact (dG Tryz.underlying3)
  refine bC (G := fun q : Bool => True) (G' := fun p : List GExport × Int × List GQuestion × Int × List GQuestion => (fun q : List GExport => (q.length ≤ 9223372036854775807 ∧ ∀ y ∈ q, oN y)) p.1 ∧ (fun p : Int × List GQuestion × Int × List GQuestion => (fun q : Int => (Lit.int .i64 q).wf = true) p.1 ∧ (fun p : List GQuestion × Int × List GQuestion => (fun q : List GQuestion => (q.length ≤ 9223372036854775807 ∧ ∀ y ∈ q, gQ y)) p.1 ∧ (fun p : Int × List GQuestion => (fun q : Int => (Lit.int .i64 q).wf = true) p.1 ∧ (fun p : List GQuestion => (p.length ≤ 9223372036854775807 ∧ ∀ y ∈ p, gQ y)) p.2) p.2) p.2) p.2) ?_ ?_ ?_ ?_
  ·rfl
  ·kernel_rfl
  ·exact (opens_bool Tryz.underlying4)
  refine bC (G := fun q : List GExport => (q.length ≤ 9223372036854775807 ∧ ∀ y ∈ q, oN y)) (G' := fun p : Int × List GQuestion × Int × List GQuestion => (fun q : Int => (Lit.int .i64 q).wf = true) p.1 ∧ (fun p : List GQuestion × Int × List GQuestion => (fun q : List GQuestion => (q.length ≤ 9223372036854775807 ∧ ∀ y ∈ q, gQ y)) p.1 ∧ (fun p : Int × List GQuestion => (fun q : Int => (Lit.int .i64 q).wf = true) p.1 ∧ (fun p : List GQuestion => (p.length ≤ 9223372036854775807 ∧ ∀ y ∈ p, gQ y)) p.2) p.2) p.2) ?_ ?_ ?_ ?_
  ·rfl
  ·kernel_rfl
  ·exact (fO zExport Tryz.underlying209 kR opens_Export)
  refine bC (G := fun q : Int => (Lit.int .i64 q).wf = true) (G' := fun p : List GQuestion × Int × List GQuestion => (fun q : List GQuestion => (q.length ≤ 9223372036854775807 ∧ ∀ y ∈ q, gQ y)) p.1 ∧ (fun p : Int × List GQuestion => (fun q : Int => (Lit.int .i64 q).wf = true) p.1 ∧ (fun p : List GQuestion => (p.length ≤ 9223372036854775807 ∧ ∀ y ∈ p, gQ y)) p.2) p.2) ?_ ?_ ?_ ?_
  ·rfl
  ·kernel_rfl
  ·exact (dG Tryz.underlying3)
  refine bC (G := fun q : List GQuestion => (q.length ≤ 9223372036854775807 ∧ ∀ y ∈ q, gQ y)) (G' := fun p : Int × List GQuestion => (fun q : Int => (Lit.int .i64 q).wf = true) p.1 ∧ (fun p : List GQuestion => (p.length ≤ 9223372036854775807 ∧ ∀ y ∈ p, gQ y)) p.2) ?_ ?_ ?_ ?_
  ·rfl
  ·kernel_rfl
  ·exact (fO lY Tryz.underlying210 kR opens_Question)
  refine bC (G := fun q : Int => (Lit.int .i64 q).wf = true) (G' := fun p : List GQuestion => (p.length ≤ 9223372036854775807 ∧ ∀ y ∈ p, gQ y)) ?_ ?_ ?_ ?_
  ·rfl
  ·kernel_rfl
  ·exact (dG Tryz.underlying3)
  refine gF ?_ ?_ ?_
  ·rfl
  ·kernel_rfl
  ·exact (fO lY Tryz.underlying210 kR opens_Question)
 exact iA (fun x : GLink => (x.dZ, x.Up, x.aW, x.Next, x.bF, x.iO, x.cB)) (fun p => ⟨p.1, p.2.1, p.2.2.1, p.2.2.2.1, p.2.2.2.2.1, p.2.2.2.2.2.1, p.2.2.2.2.2.2⟩) (fun _ => rfl) h
theorem opens_Wire : Opens Tryz.prog 215 jL jF := by
 have h : Opens Tryz.prog 215 (Kn.pair Kn.int Kn.int) (fun p : Int × Int => (fun q : Int => (Lit.int .i64 q).wf = true) p.1 ∧ (fun p : Int => (Lit.int .i64 p).wf = true) p.2) := by
  refine fF Tryz.underlying215 kR ?_
  refine bC (G := fun q : Int => (Lit.int .i64 q).wf = true) (G' := fun p : Int => (Lit.int .i64 p).wf = true) ?_ ?_ ?_ ?_
  ·rfl
  ·kernel_rfl
  ·exact (dG Tryz.underlying3)
  refine gF ?_ ?_ ?_
  ·rfl
  ·kernel_rfl
  ·exact (dG Tryz.underlying3)
 exact iA (fun x : GWire => (x.Kind, x.N)) (fun p => ⟨p.1, p.2⟩) (fun _ => rfl) h
theorem opens_Message : Opens Tryz.prog 217 iE j5 := by
 have h : Opens Tryz.prog 217 (Kn.pair Kn.int (Kn.pair Kn.int (Kn.pair Kn.int (Kn.pair Kn.int (Kn.pair Kn.string (Kn.pair (Kn.slice 215 jL) (Kn.pair jL (Kn.pair Kn.int kl_Tag)))))))) (fun p : Int × Int × Int × Int × ByteArray × List GWire × GWire × Int × GTag => (fun q : Int => (Lit.int .i64 q).wf = true) p.1 ∧ (fun p : Int × Int × Int × ByteArray × List GWire × GWire × Int × GTag => (fun q : Int => (Lit.int .i64 q).wf = true) p.1 ∧ (fun p : Int × Int × ByteArray × List GWire × GWire × Int × GTag => (fun q : Int => (Lit.int .i64 q).wf = true) p.1 ∧ (fun p : Int × ByteArray × List GWire × GWire × Int × GTag => (fun q : Int => (Lit.int .i64 q).wf = true) p.1 ∧ (fun p : ByteArray × List GWire × GWire × Int × GTag => (fun q : ByteArray => q.size ≤ 9223372036854775807) p.1 ∧ (fun p : List GWire × GWire × Int × GTag => (fun q : List GWire => (q.length ≤ 9223372036854775807 ∧ ∀ y ∈ q, jF y)) p.1 ∧ (fun p : GWire × Int × GTag => (fun q : GWire => jF q) p.1 ∧ (fun p : Int × GTag => (fun q : Int => (Lit.int .i64 q).wf = true) p.1 ∧ (fun p : GTag => jH p) p.2) p.2) p.2) p.2) p.2) p.2) p.2) p.2) := by
  refine fF Tryz.underlying217 kR ?_
  refine bC (G := fun q : Int => (Lit.int .i64 q).wf = true) (G' := fun p : Int × Int × Int × ByteArray × List GWire × GWire × Int × GTag => (fun q : Int => (Lit.int .i64 q).wf = true) p.1 ∧ (fun p : Int × Int × ByteArray × List GWire × GWire × Int × GTag => (fun q : Int => (Lit.int .i64 q).wf = true) p.1 ∧ (fun p : Int × ByteArray × List GWire × GWire × Int × GTag => (fun q : Int => (Lit.int .i64 q).wf = true) p.1 ∧ (fun p : ByteArray × List GWire × GWire × Int × GTag => (fun q : ByteArray => q.size ≤ 9223372036854775807) p.1 ∧ (fun p : List GWire × GWire × Int × GTag => (fun q : List GWire => (q.length ≤ 9223372036854775807 ∧ ∀ y ∈ q, jF y)) p.1 ∧ (fun p : GWire × Int × GTag => (fun q : GWire => jF q) p.1 ∧ (fun p : Int × GTag => (fun q : Int => (Lit.int .i64 q).wf = true) p.1 ∧ (fun p : GTag => jH p) p.2) p.2) p.2) p.2) p.2) p.2) p.2) ?_ ?_ ?_ ?_
  ·rfl
  ·kernel_rfl
  ·exact (dG Tryz.underlying3)
  refine bC (G := fun q : Int => (Lit.int .i64 q).wf = true) (G' := fun p : Int × Int × ByteArray × List GWire × GWire × Int × GTag => (fun q : Int => (Lit.int .i64 q).wf = true) p.1 ∧ (fun p : Int × ByteArray × List GWire × GWire × Int × GTag => (fun q : Int => (Lit.int .i64 q).wf = true) p.1 ∧ (fun p : ByteArray × List GWire × GWire × Int × GTag => (fun q : ByteArray => q.size ≤ 9223372036854775807) p.1 ∧ (fun p : List GWire × GWire × Int × GTag => (fun q : List GWire => (q.length ≤ 9223372036854775807 ∧ ∀ y ∈ q, jF y)) p.1 ∧ (fun p : GWire × Int × GTag => (fun q : GWire => jF q) p.1 ∧ (fun p : Int × GTag => (fun q : Int => (Lit.int .i64 q).wf = true) p.1 ∧ (fun p : GTag => jH p) p.2) p.2) p.2) p.2) p.2) p.2) ?_ ?_ ?_ ?_
  ·rfl
  ·kernel_rfl
  ·exact (dG Tryz.underlying3)
  refine bC (G := fun q : Int => (Lit.int .i64 q).wf = true) (G' := fun p : Int × ByteArray × List GWire × GWire × Int × GTag => (fun q : Int => (Lit.int .i64 q).wf = true) p.1 ∧ (fun p : ByteArray × List GWire × GWire × Int × GTag => (fun q : ByteArray => q.size ≤ 9223372036854775807) p.1 ∧ (fun p : List GWire × GWire × Int × GTag => (fun q : List GWire => (q.length ≤ 9223372036854775807 ∧ ∀ y ∈ q, jF y)) p.1 ∧ (fun p : GWire × Int × GTag => (fun q : GWire => jF q) p.1 ∧ (fun p : Int × GTag => (fun q : Int => (Lit.int .i64 q).wf = true) p.1 ∧ (fun p : GTag => jH p) p.2) p.2) p.2) p.2) p.2) ?_ ?_ ?_ ?_
  ·rfl
  ·kernel_rfl
  ·exact (dG Tryz.underlying3)
  refine bC (G := fun q : Int => (Lit.int .i64 q).wf = true) (G' := fun p : ByteArray × List GWire × GWire × Int × GTag => (fun q : ByteArray => q.size ≤ 9223372036854775807) p.1 ∧ (fun p : List GWire × GWire × Int × GTag => (fun q : List GWire => (q.length ≤ 9223372036854775807 ∧ ∀ y ∈ q, jF y)) p.1 ∧ (fun p : GWire × Int × GTag => (fun q : GWire => jF q) p.1 ∧ (fun p : Int × GTag => (fun q : Int => (Lit.int .i64 q).wf = true) p.1 ∧ (fun p : GTag => jH p) p.2) p.2) p.2) p.2) ?_ ?_ ?_ ?_
  ·rfl
  ·kernel_rfl
  ·exact (dG Tryz.underlying3)
  refine bC (G := fun q : ByteArray => q.size ≤ 9223372036854775807) (G' := fun p : List GWire × GWire × Int × GTag => (fun q : List GWire => (q.length ≤ 9223372036854775807 ∧ ∀ y ∈ q, jF y)) p.1 ∧ (fun p : GWire × Int × GTag => (fun q : GWire => jF q) p.1 ∧ (fun p : Int × GTag => (fun q : Int => (Lit.int .i64 q).wf = true) p.1 ∧ (fun p : GTag => jH p) p.2) p.2) p.2) ?_ ?_ ?_ ?_
  ·rfl
  ·kernel_rfl
  ·exact (mP Tryz.underlying9)
  refine bC (G := fun q : List GWire => (q.length ≤ 9223372036854775807 ∧ ∀ y ∈ q, jF y)) (G' := fun p : GWire × Int × GTag => (fun q : GWire => jF q) p.1 ∧ (fun p : Int × GTag => (fun q : Int => (Lit.int .i64 q).wf = true) p.1 ∧ (fun p : GTag => jH p) p.2) p.2) ?_ ?_ ?_ ?_
  ·rfl
  ·kernel_rfl
  ·exact (fO zWire Tryz.underlying214 kR opens_Wire)
  refine bC (G := fun q : GWire => jF q) (G' := fun p : Int × GTag => (fun q : Int => (Lit.int .i64 q).wf = true) p.1 ∧ (fun p : GTag => jH p) p.2) ?_ ?_ ?_ ?_
  ·rfl
  ·kernel_rfl
  ·exact opens_Wire
  refine bC (G := fun q : Int => (Lit.int .i64 q).wf = true) (G' := fun p : GTag => jH p) ?_ ?_ ?_ ?_
  ·rfl
  ·kernel_rfl
  ·exact (dG Tryz.underlying3)
  refine gF ?_ ?_ ?_
  ·rfl
  ·kernel_rfl
  ·exact opens_Tag
 exact iA (fun x : GMessage => (x.Kind, x.Pos, x.dH, x.Question, x.Name, x.bD, x.Value, x.Count, x.Tag)) (fun p => ⟨p.1, p.2.1, p.2.2.1, p.2.2.2.1, p.2.2.2.2.1, p.2.2.2.2.2.1, p.2.2.2.2.2.2.1, p.2.2.2.2.2.2.2.1, p.2.2.2.2.2.2.2.2⟩) (fun _ => rfl) h
theorem opens_Outgoing : Opens Tryz.prog 219 iG jX := by
 have h : Opens Tryz.prog 219 (Kn.pair Kn.int iE) (fun p : Int × GMessage => (fun q : Int => (Lit.int .i64 q).wf = true) p.1 ∧ (fun p : GMessage => j5 p) p.2) := by
  refine fF Tryz.underlying219 kR ?_
  refine bC (G := fun q : Int => (Lit.int .i64 q).wf = true) (G' := fun p : GMessage => j5 p) ?_ ?_ ?_ ?_
  ·rfl
  ·kernel_rfl
  ·exact (dG Tryz.underlying3)
  refine gF ?_ ?_ ?_
  ·rfl
  ·kernel_rfl
  ·exact opens_Message
 exact iA (fun x : GOutgoing => (x.To, x.Message)) (fun p => ⟨p.1, p.2⟩) (fun _ => rfl) h
theorem opens_Vat : Opens Tryz.prog 93 kl_Vat Gd_Vat := by
 have h : Opens Tryz.prog 93 (Kn.pair Kn.int (Kn.pair (Kn.slice 204 jD) (Kn.pair (Kn.slice 207 jG) (Kn.pair (Kn.slice 212 kY) (Kn.slice 219 iG))))) (fun p : Int × List GEntity × List GSent × List GLink × List GOutgoing => (fun q : Int => (Lit.int .i64 q).wf = true) p.1 ∧ (fun p : List GEntity × List GSent × List GLink × List GOutgoing => (fun q : List GEntity => (q.length ≤ 9223372036854775807 ∧ ∀ y ∈ q, oM y)) p.1 ∧ (fun p : List GSent × List GLink × List GOutgoing => (fun q : List GSent => (q.length ≤ 9223372036854775807 ∧ ∀ y ∈ q, j3 y)) p.1 ∧ (fun p : List GLink × List GOutgoing => (fun q : List GLink => (q.length ≤ 9223372036854775807 ∧ ∀ y ∈ q, Gd_Link y)) p.1 ∧ (fun p : List GOutgoing => (p.length ≤ 9223372036854775807 ∧ ∀ y ∈ p, jX y)) p.2) p.2) p.2) p.2) := by
  refine fF Tryz.underlying93 kR ?_
  refine bC (G := fun q : Int => (Lit.int .i64 q).wf = true) (G' := fun p : List GEntity × List GSent × List GLink × List GOutgoing => (fun q : List GEntity => (q.length ≤ 9223372036854775807 ∧ ∀ y ∈ q, oM y)) p.1 ∧ (fun p : List GSent × List GLink × List GOutgoing => (fun q : List GSent => (q.length ≤ 9223372036854775807 ∧ ∀ y ∈ q, j3 y)) p.1 ∧ (fun p : List GLink × List GOutgoing => (fun q : List GLink => (q.length ≤ 9223372036854775807 ∧ ∀ y ∈ q, Gd_Link y)) p.1 ∧ (fun p : List GOutgoing => (p.length ≤ 9223372036854775807 ∧ ∀ y ∈ p, jX y)) p.2) p.2) p.2) ?_ ?_ ?_ ?_
  ·rfl
  ·kernel_rfl
  ·exact (dG Tryz.underlying3)
  refine bC (G := fun q : List GEntity => (q.length ≤ 9223372036854775807 ∧ ∀ y ∈ q, oM y)) (G' := fun p : List GSent × List GLink × List GOutgoing => (fun q : List GSent => (q.length ≤ 9223372036854775807 ∧ ∀ y ∈ q, j3 y)) p.1 ∧ (fun p : List GLink × List GOutgoing => (fun q : List GLink => (q.length ≤ 9223372036854775807 ∧ ∀ y ∈ q, Gd_Link y)) p.1 ∧ (fun p : List GOutgoing => (p.length ≤ 9223372036854775807 ∧ ∀ y ∈ p, jX y)) p.2) p.2) ?_ ?_ ?_ ?_
  ·rfl
  ·kernel_rfl
  ·exact (fO zEntity Tryz.underlying88 kR opens_Entity)
  refine bC (G := fun q : List GSent => (q.length ≤ 9223372036854775807 ∧ ∀ y ∈ q, j3 y)) (G' := fun p : List GLink × List GOutgoing => (fun q : List GLink => (q.length ≤ 9223372036854775807 ∧ ∀ y ∈ q, Gd_Link y)) p.1 ∧ (fun p : List GOutgoing => (p.length ≤ 9223372036854775807 ∧ ∀ y ∈ p, jX y)) p.2) ?_ ?_ ?_ ?_
  ·rfl
  ·kernel_rfl
  ·exact (fO zSent Tryz.underlying89 kR opens_Sent)
  refine bC (G := fun q : List GLink => (q.length ≤ 9223372036854775807 ∧ ∀ y ∈ q, Gd_Link y)) (G' := fun p : List GOutgoing => (p.length ≤ 9223372036854775807 ∧ ∀ y ∈ p, jX y)) ?_ ?_ ?_ ?_
  ·rfl
  ·kernel_rfl
  ·exact (fO zLink Tryz.underlying90 kR opens_Link)
  refine gF ?_ ?_ ?_
  ·rfl
  ·kernel_rfl
  ·exact (fO mR Tryz.underlying91 kR opens_Outgoing)
 exact iA (fun x : GVat => (x.Id, x.aT, x.Loop, x.bZ, x.Out)) (fun p => ⟨p.1, p.2.1, p.2.2.1, p.2.2.2.1, p.2.2.2.2⟩) (fun _ => rfl) h
theorem opens_Channel : Opens Tryz.prog 97 jE lV := by
 have h : Opens Tryz.prog 97 (Kn.pair Kn.int (Kn.pair Kn.int (Kn.slice 217 iE))) (fun p : Int × Int × List GMessage => (fun q : Int => (Lit.int .i64 q).wf = true) p.1 ∧ (fun p : Int × List GMessage => (fun q : Int => (Lit.int .i64 q).wf = true) p.1 ∧ (fun p : List GMessage => (p.length ≤ 9223372036854775807 ∧ ∀ y ∈ p, j5 y)) p.2) p.2) := by
  refine fF Tryz.underlying97 kR ?_
  refine bC (G := fun q : Int => (Lit.int .i64 q).wf = true) (G' := fun p : Int × List GMessage => (fun q : Int => (Lit.int .i64 q).wf = true) p.1 ∧ (fun p : List GMessage => (p.length ≤ 9223372036854775807 ∧ ∀ y ∈ p, j5 y)) p.2) ?_ ?_ ?_ ?_
  ·rfl
  ·kernel_rfl
  ·exact (dG Tryz.underlying3)
  refine bC (G := fun q : Int => (Lit.int .i64 q).wf = true) (G' := fun p : List GMessage => (p.length ≤ 9223372036854775807 ∧ ∀ y ∈ p, j5 y)) ?_ ?_ ?_ ?_
  ·rfl
  ·kernel_rfl
  ·exact (dG Tryz.underlying3)
  refine gF ?_ ?_ ?_
  ·rfl
  ·kernel_rfl
  ·exact (fO nN Tryz.underlying95 kR opens_Message)
 exact iA (fun x : GChannel => (x.From, x.To, x.List)) (fun p => ⟨p.1, p.2.1, p.2.2⟩) (fun _ => rfl) h
theorem opens_Note : Opens Tryz.prog 107 mZ Gd_Note := by
 have h : Opens Tryz.prog 107 (Kn.pair Kn.int (Kn.pair Kn.int (Kn.pair Kn.int kl_Tag))) (fun p : Int × Int × Int × GTag => (fun q : Int => (Lit.int .i64 q).wf = true) p.1 ∧ (fun p : Int × Int × GTag => (fun q : Int => (Lit.int .i64 q).wf = true) p.1 ∧ (fun p : Int × GTag => (fun q : Int => (Lit.int .i64 q).wf = true) p.1 ∧ (fun p : GTag => jH p) p.2) p.2) p.2) := by
  refine fF Tryz.underlying107 kR ?_
  refine bC (G := fun q : Int => (Lit.int .i64 q).wf = true) (G' := fun p : Int × Int × GTag => (fun q : Int => (Lit.int .i64 q).wf = true) p.1 ∧ (fun p : Int × GTag => (fun q : Int => (Lit.int .i64 q).wf = true) p.1 ∧ (fun p : GTag => jH p) p.2) p.2) ?_ ?_ ?_ ?_
  ·rfl
  ·kernel_rfl
  ·exact (dG Tryz.underlying3)
  refine bC (G := fun q : Int => (Lit.int .i64 q).wf = true) (G' := fun p : Int × GTag => (fun q : Int => (Lit.int .i64 q).wf = true) p.1 ∧ (fun p : GTag => jH p) p.2) ?_ ?_ ?_ ?_
  ·rfl
  ·kernel_rfl
  ·exact (dG Tryz.underlying3)
  refine bC (G := fun q : Int => (Lit.int .i64 q).wf = true) (G' := fun p : GTag => jH p) ?_ ?_ ?_ ?_
  ·rfl
  ·kernel_rfl
  ·exact (dG Tryz.underlying3)
  refine gF ?_ ?_ ?_
  ·rfl
  ·kernel_rfl
  ·exact opens_Tag
 exact iA (fun x : GNote => (x.Kind, x.Vat, x.Entity, x.Tag)) (fun p => ⟨p.1, p.2.1, p.2.2.1, p.2.2.2⟩) (fun _ => rfl) h
theorem opens_World : Opens Tryz.prog 27 lM Gd_World := by
 have h : Opens Tryz.prog 27 (Kn.pair (Kn.slice 86 jU) (Kn.pair (Kn.slice 93 kl_Vat) (Kn.pair (Kn.slice 97 jE) (Kn.pair (Kn.slice 107 mZ) Kn.int)))) (fun p : List GScript × List GVat × List GChannel × List GNote × Int => (fun q : List GScript => (q.length ≤ 9223372036854775807 ∧ ∀ y ∈ q, Gd_Script y)) p.1 ∧ (fun p : List GVat × List GChannel × List GNote × Int => (fun q : List GVat => (q.length ≤ 9223372036854775807 ∧ ∀ y ∈ q, Gd_Vat y)) p.1 ∧ (fun p : List GChannel × List GNote × Int => (fun q : List GChannel => (q.length ≤ 9223372036854775807 ∧ ∀ y ∈ q, lV y)) p.1 ∧ (fun p : List GNote × Int => (fun q : List GNote => (q.length ≤ 9223372036854775807 ∧ ∀ y ∈ q, Gd_Note y)) p.1 ∧ (fun p : Int => (Lit.int .i64 p).wf = true) p.2) p.2) p.2) p.2) := by
  refine fF Tryz.underlying27 kR ?_
  refine bC (G := fun q : List GScript => (q.length ≤ 9223372036854775807 ∧ ∀ y ∈ q, Gd_Script y)) (G' := fun p : List GVat × List GChannel × List GNote × Int => (fun q : List GVat => (q.length ≤ 9223372036854775807 ∧ ∀ y ∈ q, Gd_Vat y)) p.1 ∧ (fun p : List GChannel × List GNote × Int => (fun q : List GChannel => (q.length ≤ 9223372036854775807 ∧ ∀ y ∈ q, lV y)) p.1 ∧ (fun p : List GNote × Int => (fun q : List GNote => (q.length ≤ 9223372036854775807 ∧ ∀ y ∈ q, Gd_Note y)) p.1 ∧ (fun p : Int => (Lit.int .i64 p).wf = true) p.2) p.2) p.2) ?_ ?_ ?_ ?_
  ·rfl
  ·kernel_rfl
  ·exact (fO zScript Tryz.underlying22 kR opens_Script)
  refine bC (G := fun q : List GVat => (q.length ≤ 9223372036854775807 ∧ ∀ y ∈ q, Gd_Vat y)) (G' := fun p : List GChannel × List GNote × Int => (fun q : List GChannel => (q.length ≤ 9223372036854775807 ∧ ∀ y ∈ q, lV y)) p.1 ∧ (fun p : List GNote × Int => (fun q : List GNote => (q.length ≤ 9223372036854775807 ∧ ∀ y ∈ q, Gd_Note y)) p.1 ∧ (fun p : Int => (Lit.int .i64 p).wf = true) p.2) p.2) ?_ ?_ ?_ ?_
  ·rfl
  ·kernel_rfl
  ·exact (fO zVat Tryz.underlying23 kR opens_Vat)
  refine bC (G := fun q : List GChannel => (q.length ≤ 9223372036854775807 ∧ ∀ y ∈ q, lV y)) (G' := fun p : List GNote × Int => (fun q : List GNote => (q.length ≤ 9223372036854775807 ∧ ∀ y ∈ q, Gd_Note y)) p.1 ∧ (fun p : Int => (Lit.int .i64 p).wf = true) p.2) ?_ ?_ ?_ ?_
  ·rfl
  ·kernel_rfl
  ·exact (fO oO Tryz.underlying24 kR opens_Channel)
  refine bC (G := fun q : List GNote => (q.length ≤ 9223372036854775807 ∧ ∀ y ∈ q, Gd_Note y)) (G' := fun p : Int => (Lit.int .i64 p).wf = true) ?_ ?_ ?_ ?_
  ·rfl
  ·kernel_rfl
  ·exact (fO zNote Tryz.underlying25 kR opens_Note)
  refine gF ?_ ?_ ?_
  ·rfl
  ·kernel_rfl
  ·exact (dG Tryz.underlying3)
 exact iA (fun x : GWorld => (x.bE, x.eT, x.bH, x.bK, x.eO)) (fun p => ⟨p.1, p.2.1, p.2.2.1, p.2.2.2.1, p.2.2.2.2⟩) (fun _ => rfl) h
end Go.Proofs.YtgaoabnnpjngcaaGreatK
