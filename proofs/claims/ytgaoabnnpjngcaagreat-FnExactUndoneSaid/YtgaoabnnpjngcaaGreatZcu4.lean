/- What the row needs, packed. No conditions beyond those that each law names. -/
import Derived.Test.YtgaoabnnpjngcaaGreatZcu3
import Derived.Test.YtgaoabnnpjngcaaGreatZcu1
import Derived.KernelRfl
namespace Go.Proofs.YtgaoabnnpjngcaaGreatK
open Go.RowKit Go.Proofs.YtgaoabnnpjngcaaGreatSep Go.Proofs.YtgaoabnnpjngcaaGreatT Go.Proofs.YtgaoabnnpjngcaaGreatOpen
theorem opens_Instr : Opens Tryz.prog 244 jE Gd_Instr := by
 have h : Opens Tryz.prog 244 (Kn.pair Kn.int (Kn.pair Kn.int (Kn.pair Kn.int (Kn.pair Kn.int (Kn.pair Kn.int Kn.string))))) (fun p : Int × Int × Int × Int × Int × ByteArray => (fun q : Int => (Lit.int .i64 q).wf = true) p.1 ∧ (fun p : Int × Int × Int × Int × ByteArray => (fun q : Int => (Lit.int .i64 q).wf = true) p.1 ∧ (fun p : Int × Int × Int × ByteArray => (fun q : Int => (Lit.int .i64 q).wf = true) p.1 ∧ (fun p : Int × Int × ByteArray => (fun q : Int => (Lit.int .i64 q).wf = true) p.1 ∧ (fun p : Int × ByteArray => (fun q : Int => (Lit.int .i64 q).wf = true) p.1 ∧ (fun p : ByteArray => p.size ≤ 9223372036854775807) p.2) p.2) p.2) p.2) p.2) := by
  refine dP Tryz.underlying244 kR ?_
  refine aK (G := fun q : Int => (Lit.int .i64 q).wf = true) (G' := fun p : Int × Int × Int × Int × ByteArray => (fun q : Int => (Lit.int .i64 q).wf = true) p.1 ∧ (fun p : Int × Int × Int × ByteArray => (fun q : Int => (Lit.int .i64 q).wf = true) p.1 ∧ (fun p : Int × Int × ByteArray => (fun q : Int => (Lit.int .i64 q).wf = true) p.1 ∧ (fun p : Int × ByteArray => (fun q : Int => (Lit.int .i64 q).wf = true) p.1 ∧ (fun p : ByteArray => p.size ≤ 9223372036854775807) p.2) p.2) p.2) p.2) ?_ ?_ ?_ ?_
  ·rfl
  ·kernel_rfl
  ·exact (bD Tryz.underlying3)
  refine aK (G := fun q : Int => (Lit.int .i64 q).wf = true) (G' := fun p : Int × Int × Int × ByteArray => (fun q : Int => (Lit.int .i64 q).wf = true) p.1 ∧ (fun p : Int × Int × ByteArray => (fun q : Int => (Lit.int .i64 q).wf = true) p.1 ∧ (fun p : Int × ByteArray => (fun q : Int => (Lit.int .i64 q).wf = true) p.1 ∧ (fun p : ByteArray => p.size ≤ 9223372036854775807) p.2) p.2) p.2) ?_ ?_ ?_ ?_
  ·rfl
  ·kernel_rfl
  ·exact (bD Tryz.underlying3)
  refine aK (G := fun q : Int => (Lit.int .i64 q).wf = true) (G' := fun p : Int × Int × ByteArray => (fun q : Int => (Lit.int .i64 q).wf = true) p.1 ∧ (fun p : Int × ByteArray => (fun q : Int => (Lit.int .i64 q).wf = true) p.1 ∧ (fun p : ByteArray => p.size ≤ 9223372036854775807) p.2) p.2) ?_ ?_ ?_ ?_
  ·rfl
  ·kernel_rfl
  ·exact (bD Tryz.underlying3)
  refine aK (G := fun q : Int => (Lit.int .i64 q).wf = true) (G' := fun p : Int × ByteArray => (fun q : Int => (Lit.int .i64 q).wf = true) p.1 ∧ (fun p : ByteArray => p.size ≤ 9223372036854775807) p.2) ?_ ?_ ?_ ?_
  ·rfl
  ·kernel_rfl
  ·exact (bD Tryz.underlying3)
  refine aK (G := fun q : Int => (Lit.int .i64 q).wf = true) (G' := fun p : ByteArray => p.size ≤ 9223372036854775807) ?_ ?_ ?_ ?_
  ·rfl
  ·kernel_rfl
  ·exact (bD Tryz.underlying3)
  refine eO ?_ ?_ ?_
  ·rfl
  ·kernel_rfl
  ·exact (lT Tryz.underlying9)
 exact gG (fun x : GInstr => (x.Op, x.A, x.B, x.C, x.D, x.Name)) (fun p => ⟨p.1, p.2.1, p.2.2.1, p.2.2.2.1, p.2.2.2.2.1, p.2.2.2.2.2⟩) (fun _ => rfl) h
theorem opens_Method : Opens Tryz.prog 198 iF Gd_Method := by
 have h : Opens Tryz.prog 198 (Kn.pair Kn.string (Kn.slice 244 jE)) (fun p : ByteArray × List GInstr => (fun q : ByteArray => q.size ≤ 9223372036854775807) p.1 ∧ (fun p : List GInstr => (p.length ≤ 9223372036854775807 ∧ ∀ y ∈ p, Gd_Instr y)) p.2) := by
  refine dP Tryz.underlying198 kR ?_
  refine aK (G := fun q : ByteArray => q.size ≤ 9223372036854775807) (G' := fun p : List GInstr => (p.length ≤ 9223372036854775807 ∧ ∀ y ∈ p, Gd_Instr y)) ?_ ?_ ?_ ?_
  ·rfl
  ·kernel_rfl
  ·exact (lT Tryz.underlying9)
  refine eO ?_ ?_ ?_
  ·rfl
  ·kernel_rfl
  ·exact (dY zInstr Tryz.underlying196 kR opens_Instr)
 exact gG (fun x : GMethod => (x.Name, x.Code)) (fun p => ⟨p.1, p.2⟩) (fun _ => rfl) h
theorem opens_Script : Opens Tryz.prog 86 jF Gd_Script := by
 have h : Opens Tryz.prog 86 (Kn.pair Kn.string (Kn.slice 198 iF)) (fun p : ByteArray × List GMethod => (fun q : ByteArray => q.size ≤ 9223372036854775807) p.1 ∧ (fun p : List GMethod => (p.length ≤ 9223372036854775807 ∧ ∀ y ∈ p, Gd_Method y)) p.2) := by
  refine dP Tryz.underlying86 kR ?_
  refine aK (G := fun q : ByteArray => q.size ≤ 9223372036854775807) (G' := fun p : List GMethod => (p.length ≤ 9223372036854775807 ∧ ∀ y ∈ p, Gd_Method y)) ?_ ?_ ?_ ?_
  ·rfl
  ·kernel_rfl
  ·exact (lT Tryz.underlying9)
  refine eO ?_ ?_ ?_
  ·rfl
  ·kernel_rfl
  ·exact (dY zMethod Tryz.underlying84 kR opens_Method)
 exact gG (fun x : GScript => (x.Name, x.Methods)) (fun p => ⟨p.1, p.2⟩) (fun _ => rfl) h
theorem opens_Value : Opens Tryz.prog 201 gP gW := by
 have h : Opens Tryz.prog 201 (Kn.pair Kn.int Kn.int) (fun p : Int × Int => (fun q : Int => (Lit.int .i64 q).wf = true) p.1 ∧ (fun p : Int => (Lit.int .i64 p).wf = true) p.2) := by
  refine dP Tryz.underlying201 kR ?_
  refine aK (G := fun q : Int => (Lit.int .i64 q).wf = true) (G' := fun p : Int => (Lit.int .i64 p).wf = true) ?_ ?_ ?_ ?_
  ·rfl
  ·kernel_rfl
  ·exact (bD Tryz.underlying3)
  refine eO ?_ ?_ ?_
  ·rfl
  ·kernel_rfl
  ·exact (bD Tryz.underlying3)
 exact gG (fun x : GValue => (x.Kind, x.N)) (fun p => ⟨p.1, p.2⟩) (fun _ => rfl) h
theorem opens_Tag : Opens Tryz.prog 105 kl_Tag iN := by
 have h : Opens Tryz.prog 105 (Kn.pair Kn.int (Kn.pair Kn.int Kn.int)) (fun p : Int × Int × Int => (fun q : Int => (Lit.int .i64 q).wf = true) p.1 ∧ (fun p : Int × Int => (fun q : Int => (Lit.int .i64 q).wf = true) p.1 ∧ (fun p : Int => (Lit.int .i64 p).wf = true) p.2) p.2) := by
  refine dP Tryz.underlying105 kR ?_
  refine aK (G := fun q : Int => (Lit.int .i64 q).wf = true) (G' := fun p : Int × Int => (fun q : Int => (Lit.int .i64 q).wf = true) p.1 ∧ (fun p : Int => (Lit.int .i64 p).wf = true) p.2) ?_ ?_ ?_ ?_
  ·rfl
  ·kernel_rfl
  ·exact (bD Tryz.underlying3)
  refine aK (G := fun q : Int => (Lit.int .i64 q).wf = true) (G' := fun p : Int => (Lit.int .i64 p).wf = true) ?_ ?_ ?_ ?_
  ·rfl
  ·kernel_rfl
  ·exact (bD Tryz.underlying3)
  refine eO ?_ ?_ ?_
  ·rfl
  ·kernel_rfl
  ·exact (bD Tryz.underlying3)
 exact gG (fun x : GTag => (x.Vat, x.Entity, x.Seq)) (fun p => ⟨p.1, p.2.1, p.2.2⟩) (fun _ => rfl) h
theorem opens_Sent : Opens Tryz.prog 207 iM jL := by
 have h : Opens Tryz.prog 207 (Kn.pair Kn.int (Kn.pair Kn.string (Kn.pair (Kn.slice 201 gP) (Kn.pair Kn.int kl_Tag)))) (fun p : Int × ByteArray × List GValue × Int × GTag => (fun q : Int => (Lit.int .i64 q).wf = true) p.1 ∧ (fun p : ByteArray × List GValue × Int × GTag => (fun q : ByteArray => q.size ≤ 9223372036854775807) p.1 ∧ (fun p : List GValue × Int × GTag => (fun q : List GValue => (q.length ≤ 9223372036854775807 ∧ ∀ y ∈ q, gW y)) p.1 ∧ (fun p : Int × GTag => (fun q : Int => (Lit.int .i64 q).wf = true) p.1 ∧ (fun p : GTag => iN p) p.2) p.2) p.2) p.2) := by
  refine dP Tryz.underlying207 kR ?_
  refine aK (G := fun q : Int => (Lit.int .i64 q).wf = true) (G' := fun p : ByteArray × List GValue × Int × GTag => (fun q : ByteArray => q.size ≤ 9223372036854775807) p.1 ∧ (fun p : List GValue × Int × GTag => (fun q : List GValue => (q.length ≤ 9223372036854775807 ∧ ∀ y ∈ q, gW y)) p.1 ∧ (fun p : Int × GTag => (fun q : Int => (Lit.int .i64 q).wf = true) p.1 ∧ (fun p : GTag => iN p) p.2) p.2) p.2) ?_ ?_ ?_ ?_
  ·rfl
  ·kernel_rfl
  ·exact (bD Tryz.underlying3)
  refine aK (G := fun q : ByteArray => q.size ≤ 9223372036854775807) (G' := fun p : List GValue × Int × GTag => (fun q : List GValue => (q.length ≤ 9223372036854775807 ∧ ∀ y ∈ q, gW y)) p.1 ∧ (fun p : Int × GTag => (fun q : Int => (Lit.int .i64 q).wf = true) p.1 ∧ (fun p : GTag => iN p) p.2) p.2) ?_ ?_ ?_ ?_
  ·rfl
  ·kernel_rfl
  ·exact (lT Tryz.underlying9)
  refine aK (G := fun q : List GValue => (q.length ≤ 9223372036854775807 ∧ ∀ y ∈ q, gW y)) (G' := fun p : Int × GTag => (fun q : Int => (Lit.int .i64 q).wf = true) p.1 ∧ (fun p : GTag => iN p) p.2) ?_ ?_ ?_ ?_
  ·rfl
  ·kernel_rfl
  ·exact (dY zValue Tryz.underlying200 kR opens_Value)
  refine aK (G := fun q : Int => (Lit.int .i64 q).wf = true) (G' := fun p : GTag => iN p) ?_ ?_ ?_ ?_
  ·rfl
  ·kernel_rfl
  ·exact (bD Tryz.underlying3)
  refine eO ?_ ?_ ?_
  ·rfl
  ·kernel_rfl
  ·exact opens_Tag
 exact gG (fun x : GSent => (x.Target, x.Name, x.bK, x.Result, x.Tag)) (fun p => ⟨p.1, p.2.1, p.2.2.1, p.2.2.2.1, p.2.2.2.2⟩) (fun _ => rfl) h
theorem opens_Asker : Opens Tryz.prog 247 jR kN := by
 have h : Opens Tryz.prog 247 (Kn.pair Kn.int Kn.int) (fun p : Int × Int => (fun q : Int => (Lit.int .i64 q).wf = true) p.1 ∧ (fun p : Int => (Lit.int .i64 p).wf = true) p.2) := by
  refine dP Tryz.underlying247 kR ?_
  refine aK (G := fun q : Int => (Lit.int .i64 q).wf = true) (G' := fun p : Int => (Lit.int .i64 p).wf = true) ?_ ?_ ?_ ?_
  ·rfl
  ·kernel_rfl
  ·exact (bD Tryz.underlying3)
  refine eO ?_ ?_ ?_
  ·rfl
  ·kernel_rfl
  ·exact (bD Tryz.underlying3)
 exact gG (fun x : GAsker => (x.iU, x.Question)) (fun p => ⟨p.1, p.2⟩) (fun _ => rfl) h
theorem opens_Entity : Opens Tryz.prog 204 iG nG := by
 have h : Opens Tryz.prog 204 (Kn.pair Kn.int (Kn.pair Kn.int (Kn.pair (Kn.slice 201 gP) (Kn.pair Kn.int (Kn.pair gP (Kn.pair (Kn.slice 207 iM) (Kn.pair (Kn.slice 247 jR) (Kn.pair Kn.int (Kn.pair Kn.int (Kn.pair Kn.int Kn.int)))))))))) (fun p : Int × Int × List GValue × Int × GValue × List GSent × List GAsker × Int × Int × Int × Int => (fun q : Int => (Lit.int .i64 q).wf = true) p.1 ∧ (fun p : Int × List GValue × Int × GValue × List GSent × List GAsker × Int × Int × Int × Int => (fun q : Int => (Lit.int .i64 q).wf = true) p.1 ∧ (fun p : List GValue × Int × GValue × List GSent × List GAsker × Int × Int × Int × Int => (fun q : List GValue => (q.length ≤ 9223372036854775807 ∧ ∀ y ∈ q, gW y)) p.1 ∧ (fun p : Int × GValue × List GSent × List GAsker × Int × Int × Int × Int => (fun q : Int => (Lit.int .i64 q).wf = true) p.1 ∧ (fun p : GValue × List GSent × List GAsker × Int × Int × Int × Int => (fun q : GValue => gW q) p.1 ∧ (fun p : List GSent × List GAsker × Int × Int × Int × Int => (fun q : List GSent => (q.length ≤ 9223372036854775807 ∧ ∀ y ∈ q, jL y)) p.1 ∧ (fun p : List GAsker × Int × Int × Int × Int => (fun q : List GAsker => (q.length ≤ 9223372036854775807 ∧ ∀ y ∈ q, kN y)) p.1 ∧ (fun p : Int × Int × Int × Int => (fun q : Int => (Lit.int .i64 q).wf = true) p.1 ∧ (fun p : Int × Int × Int => (fun q : Int => (Lit.int .i64 q).wf = true) p.1 ∧ (fun p : Int × Int => (fun q : Int => (Lit.int .i64 q).wf = true) p.1 ∧ (fun p : Int => (Lit.int .i64 p).wf = true) p.2) p.2) p.2) p.2) p.2) p.2) p.2) p.2) p.2) p.2) := by
  refine dP Tryz.underlying204 kR ?_
  refine aK (G := fun q : Int => (Lit.int .i64 q).wf = true) (G' := fun p : Int × List GValue × Int × GValue × List GSent × List GAsker × Int × Int × Int × Int => (fun q : Int => (Lit.int .i64 q).wf = true) p.1 ∧ (fun p : List GValue × Int × GValue × List GSent × List GAsker × Int × Int × Int × Int => (fun q : List GValue => (q.length ≤ 9223372036854775807 ∧ ∀ y ∈ q, gW y)) p.1 ∧ (fun p : Int × GValue × List GSent × List GAsker × Int × Int × Int × Int => (fun q : Int => (Lit.int .i64 q).wf = true) p.1 ∧ (fun p : GValue × List GSent × List GAsker × Int × Int × Int × Int => (fun q : GValue => gW q) p.1 ∧ (fun p : List GSent × List GAsker × Int × Int × Int × Int => (fun q : List GSent => (q.length ≤ 9223372036854775807 ∧ ∀ y ∈ q, jL y)) p.1 ∧ (fun p : List GAsker × Int × Int × Int × Int => (fun q : List GAsker => (q.length ≤ 9223372036854775807 ∧ ∀ y ∈ q, kN y)) p.1 ∧ (fun p : Int × Int × Int × Int => (fun q : Int => (Lit.int .i64 q).wf = true) p.1 ∧ (fun p : Int × Int × Int => (fun q : Int => (Lit.int .i64 q).wf = true) p.1 ∧ (fun p : Int × Int => (fun q : Int => (Lit.int .i64 q).wf = true) p.1 ∧ (fun p : Int => (Lit.int .i64 p).wf = true) p.2) p.2) p.2) p.2) p.2) p.2) p.2) p.2) p.2) ?_ ?_ ?_ ?_
  ·rfl
  ·kernel_rfl
  ·exact (bD Tryz.underlying3)
  refine aK (G := fun q : Int => (Lit.int .i64 q).wf = true) (G' := fun p : List GValue × Int × GValue × List GSent × List GAsker × Int × Int × Int × Int => (fun q : List GValue => (q.length ≤ 9223372036854775807 ∧ ∀ y ∈ q, gW y)) p.1 ∧ (fun p : Int × GValue × List GSent × List GAsker × Int × Int × Int × Int => (fun q : Int => (Lit.int .i64 q).wf = true) p.1 ∧ (fun p : GValue × List GSent × List GAsker × Int × Int × Int × Int => (fun q : GValue => gW q) p.1 ∧ (fun p : List GSent × List GAsker × Int × Int × Int × Int => (fun q : List GSent => (q.length ≤ 9223372036854775807 ∧ ∀ y ∈ q, jL y)) p.1 ∧ (fun p : List GAsker × Int × Int × Int × Int => (fun q : List GAsker => (q.length ≤ 9223372036854775807 ∧ ∀ y ∈ q, kN y)) p.1 ∧ (fun p : Int × Int × Int × Int => (fun q : Int => (Lit.int .i64 q).wf = true) p.1 ∧ (fun p : Int × Int × Int => (fun q : Int => (Lit.int .i64 q).wf = true) p.1 ∧ (fun p : Int × Int => (fun q : Int => (Lit.int .i64 q).wf = true) p.1 ∧ (fun p : Int => (Lit.int .i64 p).wf = true) p.2) p.2) p.2) p.2) p.2) p.2) p.2) p.2) ?_ ?_ ?_ ?_
  ·rfl
  ·kernel_rfl
  ·exact (bD Tryz.underlying3)
  refine aK (G := fun q : List GValue => (q.length ≤ 9223372036854775807 ∧ ∀ y ∈ q, gW y)) (G' := fun p : Int × GValue × List GSent × List GAsker × Int × Int × Int × Int => (fun q : Int => (Lit.int .i64 q).wf = true) p.1 ∧ (fun p : GValue × List GSent × List GAsker × Int × Int × Int × Int => (fun q : GValue => gW q) p.1 ∧ (fun p : List GSent × List GAsker × Int × Int × Int × Int => (fun q : List GSent => (q.length ≤ 9223372036854775807 ∧ ∀ y ∈ q, jL y)) p.1 ∧ (fun p : List GAsker × Int × Int × Int × Int => (fun q : List GAsker => (q.length ≤ 9223372036854775807 ∧ ∀ y ∈ q, kN y)) p.1 ∧ (fun p : Int × Int × Int × Int => (fun q : Int => (Lit.int .i64 q).wf = true) p.1 ∧ (fun p : Int × Int × Int => (fun q : Int => (Lit.int .i64 q).wf = true) p.1 ∧ (fun p : Int × Int => (fun q : Int => (Lit.int .i64 q).wf = true) p.1 ∧ (fun p : Int => (Lit.int .i64 p).wf = true) p.2) p.2) p.2) p.2) p.2) p.2) p.2) ?_ ?_ ?_ ?_
  ·rfl
  ·kernel_rfl
  ·exact (dY zValue Tryz.underlying200 kR opens_Value)
  refine aK (G := fun q : Int => (Lit.int .i64 q).wf = true) (G' := fun p : GValue × List GSent × List GAsker × Int × Int × Int × Int => (fun q : GValue => gW q) p.1 ∧ (fun p : List GSent × List GAsker × Int × Int × Int × Int => (fun q : List GSent => (q.length ≤ 9223372036854775807 ∧ ∀ y ∈ q, jL y)) p.1 ∧ (fun p : List GAsker × Int × Int × Int × Int => (fun q : List GAsker => (q.length ≤ 9223372036854775807 ∧ ∀ y ∈ q, kN y)) p.1 ∧ (fun p : Int × Int × Int × Int => (fun q : Int => (Lit.int .i64 q).wf = true) p.1 ∧ (fun p : Int × Int × Int => (fun q : Int => (Lit.int .i64 q).wf = true) p.1 ∧ (fun p : Int × Int => (fun q : Int => (Lit.int .i64 q).wf = true) p.1 ∧ (fun p : Int => (Lit.int .i64 p).wf = true) p.2) p.2) p.2) p.2) p.2) p.2) ?_ ?_ ?_ ?_
  ·rfl
  ·kernel_rfl
  ·exact (bD Tryz.underlying3)
  refine aK (G := fun q : GValue => gW q) (G' := fun p : List GSent × List GAsker × Int × Int × Int × Int => (fun q : List GSent => (q.length ≤ 9223372036854775807 ∧ ∀ y ∈ q, jL y)) p.1 ∧ (fun p : List GAsker × Int × Int × Int × Int => (fun q : List GAsker => (q.length ≤ 9223372036854775807 ∧ ∀ y ∈ q, kN y)) p.1 ∧ (fun p : Int × Int × Int × Int => (fun q : Int => (Lit.int .i64 q).wf = true) p.1 ∧ (fun p : Int × Int × Int => (fun q : Int => (Lit.int .i64 q).wf = true) p.1 ∧ (fun p : Int × Int => (fun q : Int => (Lit.int .i64 q).wf = true) p.1 ∧ (fun p : Int => (Lit.int .i64 p).wf = true) p.2) p.2) p.2) p.2) p.2) ?_ ?_ ?_ ?_
  ·rfl
  ·kernel_rfl
  ·exact opens_Value
  refine aK (G := fun q : List GSent => (q.length ≤ 9223372036854775807 ∧ ∀ y ∈ q, jL y)) (G' := fun p : List GAsker × Int × Int × Int × Int => (fun q : List GAsker => (q.length ≤ 9223372036854775807 ∧ ∀ y ∈ q, kN y)) p.1 ∧ (fun p : Int × Int × Int × Int => (fun q : Int => (Lit.int .i64 q).wf = true) p.1 ∧ (fun p : Int × Int × Int => (fun q : Int => (Lit.int .i64 q).wf = true) p.1 ∧ (fun p : Int × Int => (fun q : Int => (Lit.int .i64 q).wf = true) p.1 ∧ (fun p : Int => (Lit.int .i64 p).wf = true) p.2) p.2) p.2) p.2) ?_ ?_ ?_ ?_
  ·rfl
  ·kernel_rfl
  ·exact (dY zSent Tryz.underlying89 kR opens_Sent)
  refine aK (G := fun q : List GAsker => (q.length ≤ 9223372036854775807 ∧ ∀ y ∈ q, kN y)) (G' := fun p : Int × Int × Int × Int => (fun q : Int => (Lit.int .i64 q).wf = true) p.1 ∧ (fun p : Int × Int × Int => (fun q : Int => (Lit.int .i64 q).wf = true) p.1 ∧ (fun p : Int × Int => (fun q : Int => (Lit.int .i64 q).wf = true) p.1 ∧ (fun p : Int => (Lit.int .i64 p).wf = true) p.2) p.2) p.2) ?_ ?_ ?_ ?_
  ·rfl
  ·kernel_rfl
  ·exact (dY zAsker Tryz.underlying202 kR opens_Asker)
  refine aK (G := fun q : Int => (Lit.int .i64 q).wf = true) (G' := fun p : Int × Int × Int => (fun q : Int => (Lit.int .i64 q).wf = true) p.1 ∧ (fun p : Int × Int => (fun q : Int => (Lit.int .i64 q).wf = true) p.1 ∧ (fun p : Int => (Lit.int .i64 p).wf = true) p.2) p.2) ?_ ?_ ?_ ?_
  ·rfl
  ·kernel_rfl
  ·exact (bD Tryz.underlying3)
  refine aK (G := fun q : Int => (Lit.int .i64 q).wf = true) (G' := fun p : Int × Int => (fun q : Int => (Lit.int .i64 q).wf = true) p.1 ∧ (fun p : Int => (Lit.int .i64 p).wf = true) p.2) ?_ ?_ ?_ ?_
  ·rfl
  ·kernel_rfl
  ·exact (bD Tryz.underlying3)
  refine aK (G := fun q : Int => (Lit.int .i64 q).wf = true) (G' := fun p : Int => (Lit.int .i64 p).wf = true) ?_ ?_ ?_ ?_
  ·rfl
  ·kernel_rfl
  ·exact (bD Tryz.underlying3)
  refine eO ?_ ?_ ?_
  ·rfl
  ·kernel_rfl
  ·exact (bD Tryz.underlying3)
 exact gG (fun x : GEntity => (x.Kind, x.Script, x.fF, x.State, x.Value, x.Queue, x.dN, x.iU, x.Pos, x.Count, x.Sent)) (fun p => ⟨p.1, p.2.1, p.2.2.1, p.2.2.2.1, p.2.2.2.2.1, p.2.2.2.2.2.1, p.2.2.2.2.2.2.1, p.2.2.2.2.2.2.2.1, p.2.2.2.2.2.2.2.2.1, p.2.2.2.2.2.2.2.2.2.1, p.2.2.2.2.2.2.2.2.2.2⟩) (fun _ => rfl) h
theorem opens_Export : Opens Tryz.prog 249 iQ nH := by
 have h : Opens Tryz.prog 249 (Kn.pair Kn.int (Kn.pair Kn.int Kn.int)) (fun p : Int × Int × Int => (fun q : Int => (Lit.int .i64 q).wf = true) p.1 ∧ (fun p : Int × Int => (fun q : Int => (Lit.int .i64 q).wf = true) p.1 ∧ (fun p : Int => (Lit.int .i64 p).wf = true) p.2) p.2) := by
  refine dP Tryz.underlying249 kR ?_
  refine aK (G := fun q : Int => (Lit.int .i64 q).wf = true) (G' := fun p : Int × Int => (fun q : Int => (Lit.int .i64 q).wf = true) p.1 ∧ (fun p : Int => (Lit.int .i64 p).wf = true) p.2) ?_ ?_ ?_ ?_
  ·rfl
  ·kernel_rfl
  ·exact (bD Tryz.underlying3)
  refine aK (G := fun q : Int => (Lit.int .i64 q).wf = true) (G' := fun p : Int => (Lit.int .i64 p).wf = true) ?_ ?_ ?_ ?_
  ·rfl
  ·kernel_rfl
  ·exact (bD Tryz.underlying3)
  refine eO ?_ ?_ ?_
  ·rfl
  ·kernel_rfl
  ·exact (bD Tryz.underlying3)
 exact gG (fun x : GExport => (x.Pos, x.Entity, x.Count)) (fun p => ⟨p.1, p.2.1, p.2.2⟩) (fun _ => rfl) h
theorem opens_Question : Opens Tryz.prog 251 fA fJ := by
 have h : Opens Tryz.prog 251 (Kn.pair Kn.int Kn.int) (fun p : Int × Int => (fun q : Int => (Lit.int .i64 q).wf = true) p.1 ∧ (fun p : Int => (Lit.int .i64 p).wf = true) p.2) := by
  refine dP Tryz.underlying251 kR ?_
  refine aK (G := fun q : Int => (Lit.int .i64 q).wf = true) (G' := fun p : Int => (Lit.int .i64 p).wf = true) ?_ ?_ ?_ ?_
  ·rfl
  ·kernel_rfl
  ·exact (bD Tryz.underlying3)
  refine eO ?_ ?_ ?_
  ·rfl
  ·kernel_rfl
  ·exact (bD Tryz.underlying3)
 exact gG (fun x : GQuestion => (x.Id, x.Promise)) (fun p => ⟨p.1, p.2⟩) (fun _ => rfl) h
theorem opens_Link : Opens Tryz.prog 212 kK Gd_Link := by
 have h : Opens Tryz.prog 212 (Kn.pair Kn.int (Kn.pair Kn.bool (Kn.pair (Kn.slice 249 iQ) (Kn.pair Kn.int (Kn.pair (Kn.slice 251 fA) (Kn.pair Kn.int (Kn.slice 251 fA))))))) (fun p : Int × Bool × List GExport × Int × List GQuestion × Int × List GQuestion => (fun q : Int => (Lit.int .i64 q).wf = true) p.1 ∧ (fun p : Bool × List GExport × Int × List GQuestion × Int × List GQuestion => (fun q : Bool => True) p.1 ∧ (fun p : List GExport × Int × List GQuestion × Int × List GQuestion => (fun q : List GExport => (q.length ≤ 9223372036854775807 ∧ ∀ y ∈ q, nH y)) p.1 ∧ (fun p : Int × List GQuestion × Int × List GQuestion => (fun q : Int => (Lit.int .i64 q).wf = true) p.1 ∧ (fun p : List GQuestion × Int × List GQuestion => (fun q : List GQuestion => (q.length ≤ 9223372036854775807 ∧ ∀ y ∈ q, fJ y)) p.1 ∧ (fun p : Int × List GQuestion => (fun q : Int => (Lit.int .i64 q).wf = true) p.1 ∧ (fun p : List GQuestion => (p.length ≤ 9223372036854775807 ∧ ∀ y ∈ p, fJ y)) p.2) p.2) p.2) p.2) p.2) p.2) := by
  refine dP Tryz.underlying212 kR ?_
  refine aK (G := fun q : Int => (Lit.int .i64 q).wf = true) (G' := fun p : Bool × List GExport × Int × List GQuestion × Int × List GQuestion => (fun q : Bool => True) p.1 ∧ (fun p : List GExport × Int × List GQuestion × Int × List GQuestion => (fun q : List GExport => (q.length ≤ 9223372036854775807 ∧ ∀ y ∈ q, nH y)) p.1 ∧ (fun p : Int × List GQuestion × Int × List GQuestion => (fun q : Int => (Lit.int .i64 q).wf = true) p.1 ∧ (fun p : List GQuestion × Int × List GQuestion => (fun q : List GQuestion => (q.length ≤ 9223372036854775807 ∧ ∀ y ∈ q, fJ y)) p.1 ∧ (fun p : Int × List GQuestion => (fun q : Int => (Lit.int .i64 q).wf = true) p.1 ∧ (fun p : List GQuestion => (p.length ≤ 9223372036854775807 ∧ ∀ y ∈ p, fJ y)) p.2) p.2) p.2) p.2) p.2) ?_ ?_ ?_ ?_
  ·rfl
  ·kernel_rfl
  ·exact (bD Tryz.underlying3)
  refine aK (G := fun q : Bool => True) (G' := fun p : List GExport × Int × List GQuestion × Int × List GQuestion => (fun q : List GExport => (q.length ≤ 9223372036854775807 ∧ ∀ y ∈ q, nH y)) p.1 ∧ (fun p : Int × List GQuestion × Int × List GQuestion => (fun q : Int => (Lit.int .i64 q).wf = true) p.1 ∧ (fun p : List GQuestion × Int × List GQuestion => (fun q : List GQuestion => (q.length ≤ 9223372036854775807 ∧ ∀ y ∈ q, fJ y)) p.1 ∧ (fun p : Int × List GQuestion => (fun q : Int => (Lit.int .i64 q).wf = true) p.1 ∧ (fun p : List GQuestion => (p.length ≤ 9223372036854775807 ∧ ∀ y ∈ p, fJ y)) p.2) p.2) p.2) p.2) ?_ ?_ ?_ ?_
  ·rfl
  ·kernel_rfl
  ·exact (opens_bool Tryz.underlying4)
  refine aK (G := fun q : List GExport => (q.length ≤ 9223372036854775807 ∧ ∀ y ∈ q, nH y)) (G' := fun p : Int × List GQuestion × Int × List GQuestion => (fun q : Int => (Lit.int .i64 q).wf = true) p.1 ∧ (fun p : List GQuestion × Int × List GQuestion => (fun q : List GQuestion => (q.length ≤ 9223372036854775807 ∧ ∀ y ∈ q, fJ y)) p.1 ∧ (fun p : Int × List GQuestion => (fun q : Int => (Lit.int .i64 q).wf = true) p.1 ∧ (fun p : List GQuestion => (p.length ≤ 9223372036854775807 ∧ ∀ y ∈ p, fJ y)) p.2) p.2) p.2) ?_ ?_ ?_ ?_
  ·rfl
  ·kernel_rfl
  ·exact (dY zExport Tryz.underlying209 kR opens_Export)
  refine aK (G := fun q : Int => (Lit.int .i64 q).wf = true) (G' := fun p : List GQuestion × Int × List GQuestion => (fun q : List GQuestion => (q.length ≤ 9223372036854775807 ∧ ∀ y ∈ q, fJ y)) p.1 ∧ (fun p : Int × List GQuestion => (fun q : Int => (Lit.int .i64 q).wf = true) p.1 ∧ (fun p : List GQuestion => (p.length ≤ 9223372036854775807 ∧ ∀ y ∈ p, fJ y)) p.2) p.2) ?_ ?_ ?_ ?_
  ·rfl
  ·kernel_rfl
  ·exact (bD Tryz.underlying3)
  refine aK (G := fun q : List GQuestion => (q.length ≤ 9223372036854775807 ∧ ∀ y ∈ q, fJ y)) (G' := fun p : Int × List GQuestion => (fun q : Int => (Lit.int .i64 q).wf = true) p.1 ∧ (fun p : List GQuestion => (p.length ≤ 9223372036854775807 ∧ ∀ y ∈ p, fJ y)) p.2) ?_ ?_ ?_ ?_
  ·rfl
  ·kernel_rfl
  ·exact (dY kX Tryz.underlying210 kR opens_Question)
  refine aK (G := fun q : Int => (Lit.int .i64 q).wf = true) (G' := fun p : List GQuestion => (p.length ≤ 9223372036854775807 ∧ ∀ y ∈ p, fJ y)) ?_ ?_ ?_ ?_
  ·rfl
  ·kernel_rfl
  ·exact (bD Tryz.underlying3)
  refine eO ?_ ?_ ?_
  ·rfl
  ·kernel_rfl
  ·exact (dY kX Tryz.underlying210 kR opens_Question)
 exact gG (fun x : GLink => (x.iU, x.Up, x.bW, x.Next, x.bC, x.Asked, x.cO)) (fun p => ⟨p.1, p.2.1, p.2.2.1, p.2.2.2.1, p.2.2.2.2.1, p.2.2.2.2.2.1, p.2.2.2.2.2.2⟩) (fun _ => rfl) h
theorem opens_Wire : Opens Tryz.prog 215 iX iL := by
 have h : Opens Tryz.prog 215 (Kn.pair Kn.int Kn.int) (fun p : Int × Int => (fun q : Int => (Lit.int .i64 q).wf = true) p.1 ∧ (fun p : Int => (Lit.int .i64 p).wf = true) p.2) := by
  refine dP Tryz.underlying215 kR ?_
  refine aK (G := fun q : Int => (Lit.int .i64 q).wf = true) (G' := fun p : Int => (Lit.int .i64 p).wf = true) ?_ ?_ ?_ ?_
  ·rfl
  ·kernel_rfl
  ·exact (bD Tryz.underlying3)
  refine eO ?_ ?_ ?_
  ·rfl
  ·kernel_rfl
  ·exact (bD Tryz.underlying3)
 exact gG (fun x : GWire => (x.Kind, x.N)) (fun p => ⟨p.1, p.2⟩) (fun _ => rfl) h
theorem opens_Message : Opens Tryz.prog 217 gI jM := by
 have h : Opens Tryz.prog 217 (Kn.pair Kn.int (Kn.pair Kn.int (Kn.pair Kn.int (Kn.pair Kn.int (Kn.pair Kn.string (Kn.pair (Kn.slice 215 iX) (Kn.pair iX (Kn.pair Kn.int kl_Tag)))))))) (fun p : Int × Int × Int × Int × ByteArray × List GWire × GWire × Int × GTag => (fun q : Int => (Lit.int .i64 q).wf = true) p.1 ∧ (fun p : Int × Int × Int × ByteArray × List GWire × GWire × Int × GTag => (fun q : Int => (Lit.int .i64 q).wf = true) p.1 ∧ (fun p : Int × Int × ByteArray × List GWire × GWire × Int × GTag => (fun q : Int => (Lit.int .i64 q).wf = true) p.1 ∧ (fun p : Int × ByteArray × List GWire × GWire × Int × GTag => (fun q : Int => (Lit.int .i64 q).wf = true) p.1 ∧ (fun p : ByteArray × List GWire × GWire × Int × GTag => (fun q : ByteArray => q.size ≤ 9223372036854775807) p.1 ∧ (fun p : List GWire × GWire × Int × GTag => (fun q : List GWire => (q.length ≤ 9223372036854775807 ∧ ∀ y ∈ q, iL y)) p.1 ∧ (fun p : GWire × Int × GTag => (fun q : GWire => iL q) p.1 ∧ (fun p : Int × GTag => (fun q : Int => (Lit.int .i64 q).wf = true) p.1 ∧ (fun p : GTag => iN p) p.2) p.2) p.2) p.2) p.2) p.2) p.2) p.2) := by
  refine dP Tryz.underlying217 kR ?_
  refine aK (G := fun q : Int => (Lit.int .i64 q).wf = true) (G' := fun p : Int × Int × Int × ByteArray × List GWire × GWire × Int × GTag => (fun q : Int => (Lit.int .i64 q).wf = true) p.1 ∧ (fun p : Int × Int × ByteArray × List GWire × GWire × Int × GTag => (fun q : Int => (Lit.int .i64 q).wf = true) p.1 ∧ (fun p : Int × ByteArray × List GWire × GWire × Int × GTag => (fun q : Int => (Lit.int .i64 q).wf = true) p.1 ∧ (fun p : ByteArray × List GWire × GWire × Int × GTag => (fun q : ByteArray => q.size ≤ 9223372036854775807) p.1 ∧ (fun p : List GWire × GWire × Int × GTag => (fun q : List GWire => (q.length ≤ 9223372036854775807 ∧ ∀ y ∈ q, iL y)) p.1 ∧ (fun p : GWire × Int × GTag => (fun q : GWire => iL q) p.1 ∧ (fun p : Int × GTag => (fun q : Int => (Lit.int .i64 q).wf = true) p.1 ∧ (fun p : GTag => iN p) p.2) p.2) p.2) p.2) p.2) p.2) p.2) ?_ ?_ ?_ ?_
  ·rfl
  ·kernel_rfl
  ·exact (bD Tryz.underlying3)
  refine aK (G := fun q : Int => (Lit.int .i64 q).wf = true) (G' := fun p : Int × Int × ByteArray × List GWire × GWire × Int × GTag => (fun q : Int => (Lit.int .i64 q).wf = true) p.1 ∧ (fun p : Int × ByteArray × List GWire × GWire × Int × GTag => (fun q : Int => (Lit.int .i64 q).wf = true) p.1 ∧ (fun p : ByteArray × List GWire × GWire × Int × GTag => (fun q : ByteArray => q.size ≤ 9223372036854775807) p.1 ∧ (fun p : List GWire × GWire × Int × GTag => (fun q : List GWire => (q.length ≤ 9223372036854775807 ∧ ∀ y ∈ q, iL y)) p.1 ∧ (fun p : GWire × Int × GTag => (fun q : GWire => iL q) p.1 ∧ (fun p : Int × GTag => (fun q : Int => (Lit.int .i64 q).wf = true) p.1 ∧ (fun p : GTag => iN p) p.2) p.2) p.2) p.2) p.2) p.2) ?_ ?_ ?_ ?_
  ·rfl
  ·kernel_rfl
  ·exact (bD Tryz.underlying3)
  refine aK (G := fun q : Int => (Lit.int .i64 q).wf = true) (G' := fun p : Int × ByteArray × List GWire × GWire × Int × GTag => (fun q : Int => (Lit.int .i64 q).wf = true) p.1 ∧ (fun p : ByteArray × List GWire × GWire × Int × GTag => (fun q : ByteArray => q.size ≤ 9223372036854775807) p.1 ∧ (fun p : List GWire × GWire × Int × GTag => (fun q : List GWire => (q.length ≤ 9223372036854775807 ∧ ∀ y ∈ q, iL y)) p.1 ∧ (fun p : GWire × Int × GTag => (fun q : GWire => iL q) p.1 ∧ (fun p : Int × GTag => (fun q : Int => (Lit.int .i64 q).wf = true) p.1 ∧ (fun p : GTag => iN p) p.2) p.2) p.2) p.2) p.2) ?_ ?_ ?_ ?_
  ·rfl
  ·kernel_rfl
  ·exact (bD Tryz.underlying3)
  refine aK (G := fun q : Int => (Lit.int .i64 q).wf = true) (G' := fun p : ByteArray × List GWire × GWire × Int × GTag => (fun q : ByteArray => q.size ≤ 9223372036854775807) p.1 ∧ (fun p : List GWire × GWire × Int × GTag => (fun q : List GWire => (q.length ≤ 9223372036854775807 ∧ ∀ y ∈ q, iL y)) p.1 ∧ (fun p : GWire × Int × GTag => (fun q : GWire => iL q) p.1 ∧ (fun p : Int × GTag => (fun q : Int => (Lit.int .i64 q).wf = true) p.1 ∧ (fun p : GTag => iN p) p.2) p.2) p.2) p.2) ?_ ?_ ?_ ?_
  ·rfl
  ·kernel_rfl
  ·exact (bD Tryz.underlying3)
  refine aK (G := fun q : ByteArray => q.size ≤ 9223372036854775807) (G' := fun p : List GWire × GWire × Int × GTag => (fun q : List GWire => (q.length ≤ 9223372036854775807 ∧ ∀ y ∈ q, iL y)) p.1 ∧ (fun p : GWire × Int × GTag => (fun q : GWire => iL q) p.1 ∧ (fun p : Int × GTag => (fun q : Int => (Lit.int .i64 q).wf = true) p.1 ∧ (fun p : GTag => iN p) p.2) p.2) p.2) ?_ ?_ ?_ ?_
  ·rfl
  ·kernel_rfl
  ·exact (lT Tryz.underlying9)
  refine aK (G := fun q : List GWire => (q.length ≤ 9223372036854775807 ∧ ∀ y ∈ q, iL y)) (G' := fun p : GWire × Int × GTag => (fun q : GWire => iL q) p.1 ∧ (fun p : Int × GTag => (fun q : Int => (Lit.int .i64 q).wf = true) p.1 ∧ (fun p : GTag => iN p) p.2) p.2) ?_ ?_ ?_ ?_
  ·rfl
  ·kernel_rfl
  ·exact (dY zWire Tryz.underlying214 kR opens_Wire)
  refine aK (G := fun q : GWire => iL q) (G' := fun p : Int × GTag => (fun q : Int => (Lit.int .i64 q).wf = true) p.1 ∧ (fun p : GTag => iN p) p.2) ?_ ?_ ?_ ?_
  ·rfl
  ·kernel_rfl
  ·exact opens_Wire
  refine aK (G := fun q : Int => (Lit.int .i64 q).wf = true) (G' := fun p : GTag => iN p) ?_ ?_ ?_ ?_
  ·rfl
  ·kernel_rfl
  ·exact (bD Tryz.underlying3)
  refine eO ?_ ?_ ?_
  ·rfl
  ·kernel_rfl
  ·exact opens_Tag
 exact gG (fun x : GMessage => (x.Kind, x.Pos, x.iC, x.Question, x.Name, x.bK, x.Value, x.Count, x.Tag)) (fun p => ⟨p.1, p.2.1, p.2.2.1, p.2.2.2.1, p.2.2.2.2.1, p.2.2.2.2.2.1, p.2.2.2.2.2.2.1, p.2.2.2.2.2.2.2.1, p.2.2.2.2.2.2.2.2⟩) (fun _ => rfl) h
theorem opens_Outgoing : Opens Tryz.prog 219 gL jG := by
 have h : Opens Tryz.prog 219 (Kn.pair Kn.int gI) (fun p : Int × GMessage => (fun q : Int => (Lit.int .i64 q).wf = true) p.1 ∧ (fun p : GMessage => jM p) p.2) := by
  refine dP Tryz.underlying219 kR ?_
  refine aK (G := fun q : Int => (Lit.int .i64 q).wf = true) (G' := fun p : GMessage => jM p) ?_ ?_ ?_ ?_
  ·rfl
  ·kernel_rfl
  ·exact (bD Tryz.underlying3)
  refine eO ?_ ?_ ?_
  ·rfl
  ·kernel_rfl
  ·exact opens_Message
 exact gG (fun x : GOutgoing => (x.To, x.Message)) (fun p => ⟨p.1, p.2⟩) (fun _ => rfl) h
theorem opens_Vat : Opens Tryz.prog 93 kl_Vat Gd_Vat := by
 have h : Opens Tryz.prog 93 (Kn.pair Kn.int (Kn.pair (Kn.slice 204 iG) (Kn.pair (Kn.slice 207 iM) (Kn.pair (Kn.slice 212 kK) (Kn.slice 219 gL))))) (fun p : Int × List GEntity × List GSent × List GLink × List GOutgoing => (fun q : Int => (Lit.int .i64 q).wf = true) p.1 ∧ (fun p : List GEntity × List GSent × List GLink × List GOutgoing => (fun q : List GEntity => (q.length ≤ 9223372036854775807 ∧ ∀ y ∈ q, nG y)) p.1 ∧ (fun p : List GSent × List GLink × List GOutgoing => (fun q : List GSent => (q.length ≤ 9223372036854775807 ∧ ∀ y ∈ q, jL y)) p.1 ∧ (fun p : List GLink × List GOutgoing => (fun q : List GLink => (q.length ≤ 9223372036854775807 ∧ ∀ y ∈ q, Gd_Link y)) p.1 ∧ (fun p : List GOutgoing => (p.length ≤ 9223372036854775807 ∧ ∀ y ∈ p, jG y)) p.2) p.2) p.2) p.2) := by
  refine dP Tryz.underlying93 kR ?_
  refine aK (G := fun q : Int => (Lit.int .i64 q).wf = true) (G' := fun p : List GEntity × List GSent × List GLink × List GOutgoing => (fun q : List GEntity => (q.length ≤ 9223372036854775807 ∧ ∀ y ∈ q, nG y)) p.1 ∧ (fun p : List GSent × List GLink × List GOutgoing => (fun q : List GSent => (q.length ≤ 9223372036854775807 ∧ ∀ y ∈ q, jL y)) p.1 ∧ (fun p : List GLink × List GOutgoing => (fun q : List GLink => (q.length ≤ 9223372036854775807 ∧ ∀ y ∈ q, Gd_Link y)) p.1 ∧ (fun p : List GOutgoing => (p.length ≤ 9223372036854775807 ∧ ∀ y ∈ p, jG y)) p.2) p.2) p.2) ?_ ?_ ?_ ?_
  ·rfl
  ·kernel_rfl
  ·exact (bD Tryz.underlying3)
  refine aK (G := fun q : List GEntity => (q.length ≤ 9223372036854775807 ∧ ∀ y ∈ q, nG y)) (G' := fun p : List GSent × List GLink × List GOutgoing => (fun q : List GSent => (q.length ≤ 9223372036854775807 ∧ ∀ y ∈ q, jL y)) p.1 ∧ (fun p : List GLink × List GOutgoing => (fun q : List GLink => (q.length ≤ 9223372036854775807 ∧ ∀ y ∈ q, Gd_Link y)) p.1 ∧ (fun p : List GOutgoing => (p.length ≤ 9223372036854775807 ∧ ∀ y ∈ p, jG y)) p.2) p.2) ?_ ?_ ?_ ?_
  ·rfl
  ·kernel_rfl
  ·exact (dY zEntity Tryz.underlying88 kR opens_Entity)
  refine aK (G := fun q : List GSent => (q.length ≤ 9223372036854775807 ∧ ∀ y ∈ q, jL y)) (G' := fun p : List GLink × List GOutgoing => (fun q : List GLink => (q.length ≤ 9223372036854775807 ∧ ∀ y ∈ q, Gd_Link y)) p.1 ∧ (fun p : List GOutgoing => (p.length ≤ 9223372036854775807 ∧ ∀ y ∈ p, jG y)) p.2) ?_ ?_ ?_ ?_
  ·rfl
  ·kernel_rfl
  ·exact (dY zSent Tryz.underlying89 kR opens_Sent)
  refine aK (G := fun q : List GLink => (q.length ≤ 9223372036854775807 ∧ ∀ y ∈ q, Gd_Link y)) (G' := fun p : List GOutgoing => (p.length ≤ 9223372036854775807 ∧ ∀ y ∈ p, jG y)) ?_ ?_ ?_ ?_
  ·rfl
  ·kernel_rfl
  ·exact (dY zLink Tryz.underlying90 kR opens_Link)
  refine eO ?_ ?_ ?_
  ·rfl
  ·kernel_rfl
  ·exact (dY lZ Tryz.underlying91 kR opens_Outgoing)
 exact gG (fun x : GVat => (x.Id, x.bH, x.Loop, x.gB, x.Out)) (fun p => ⟨p.1, p.2.1, p.2.2.1, p.2.2.2.1, p.2.2.2.2⟩) (fun _ => rfl) h
theorem opens_Channel : Opens Tryz.prog 97 iK kU := by
 have h : Opens Tryz.prog 97 (Kn.pair Kn.int (Kn.pair Kn.int (Kn.slice 217 gI))) (fun p : Int × Int × List GMessage => (fun q : Int => (Lit.int .i64 q).wf = true) p.1 ∧ (fun p : Int × List GMessage => (fun q : Int => (Lit.int .i64 q).wf = true) p.1 ∧ (fun p : List GMessage => (p.length ≤ 9223372036854775807 ∧ ∀ y ∈ p, jM y)) p.2) p.2) := by
  refine dP Tryz.underlying97 kR ?_
  refine aK (G := fun q : Int => (Lit.int .i64 q).wf = true) (G' := fun p : Int × List GMessage => (fun q : Int => (Lit.int .i64 q).wf = true) p.1 ∧ (fun p : List GMessage => (p.length ≤ 9223372036854775807 ∧ ∀ y ∈ p, jM y)) p.2) ?_ ?_ ?_ ?_
  ·rfl
  ·kernel_rfl
  ·exact (bD Tryz.underlying3)
  refine aK (G := fun q : Int => (Lit.int .i64 q).wf = true) (G' := fun p : List GMessage => (p.length ≤ 9223372036854775807 ∧ ∀ y ∈ p, jM y)) ?_ ?_ ?_ ?_
  ·rfl
  ·kernel_rfl
  ·exact (bD Tryz.underlying3)
  refine eO ?_ ?_ ?_
  ·rfl
  ·kernel_rfl
  ·exact (dY mO Tryz.underlying95 kR opens_Message)
 exact gG (fun x : GChannel => (x.From, x.To, x.List)) (fun p => ⟨p.1, p.2.1, p.2.2⟩) (fun _ => rfl) h
theorem opens_Note : Opens Tryz.prog 107 mM Gd_Note := by
 have h : Opens Tryz.prog 107 (Kn.pair Kn.int (Kn.pair Kn.int (Kn.pair Kn.int kl_Tag))) (fun p : Int × Int × Int × GTag => (fun q : Int => (Lit.int .i64 q).wf = true) p.1 ∧ (fun p : Int × Int × GTag => (fun q : Int => (Lit.int .i64 q).wf = true) p.1 ∧ (fun p : Int × GTag => (fun q : Int => (Lit.int .i64 q).wf = true) p.1 ∧ (fun p : GTag => iN p) p.2) p.2) p.2) := by
  refine dP Tryz.underlying107 kR ?_
  refine aK (G := fun q : Int => (Lit.int .i64 q).wf = true) (G' := fun p : Int × Int × GTag => (fun q : Int => (Lit.int .i64 q).wf = true) p.1 ∧ (fun p : Int × GTag => (fun q : Int => (Lit.int .i64 q).wf = true) p.1 ∧ (fun p : GTag => iN p) p.2) p.2) ?_ ?_ ?_ ?_
  ·rfl
  ·kernel_rfl
  ·exact (bD Tryz.underlying3)
  refine aK (G := fun q : Int => (Lit.int .i64 q).wf = true) (G' := fun p : Int × GTag => (fun q : Int => (Lit.int .i64 q).wf = true) p.1 ∧ (fun p : GTag => iN p) p.2) ?_ ?_ ?_ ?_
  ·rfl
  ·kernel_rfl
  ·exact (bD Tryz.underlying3)
  refine aK (G := fun q : Int => (Lit.int .i64 q).wf = true) (G' := fun p : GTag => iN p) ?_ ?_ ?_ ?_
  ·rfl
  ·kernel_rfl
  ·exact (bD Tryz.underlying3)
  refine eO ?_ ?_ ?_
  ·rfl
  ·kernel_rfl
  ·exact opens_Tag
 exact gG (fun x : GNote => (x.Kind, x.Vat, x.Entity, x.Tag)) (fun p => ⟨p.1, p.2.1, p.2.2.1, p.2.2.2⟩) (fun _ => rfl) h
theorem opens_World : Opens Tryz.prog 27 kQ Gd_World := by
 have h : Opens Tryz.prog 27 (Kn.pair (Kn.slice 86 jF) (Kn.pair (Kn.slice 93 kl_Vat) (Kn.pair (Kn.slice 97 iK) (Kn.pair (Kn.slice 107 mM) Kn.int)))) (fun p : List GScript × List GVat × List GChannel × List GNote × Int => (fun q : List GScript => (q.length ≤ 9223372036854775807 ∧ ∀ y ∈ q, Gd_Script y)) p.1 ∧ (fun p : List GVat × List GChannel × List GNote × Int => (fun q : List GVat => (q.length ≤ 9223372036854775807 ∧ ∀ y ∈ q, Gd_Vat y)) p.1 ∧ (fun p : List GChannel × List GNote × Int => (fun q : List GChannel => (q.length ≤ 9223372036854775807 ∧ ∀ y ∈ q, kU y)) p.1 ∧ (fun p : List GNote × Int => (fun q : List GNote => (q.length ≤ 9223372036854775807 ∧ ∀ y ∈ q, Gd_Note y)) p.1 ∧ (fun p : Int => (Lit.int .i64 p).wf = true) p.2) p.2) p.2) p.2) := by
  refine dP Tryz.underlying27 kR ?_
  refine aK (G := fun q : List GScript => (q.length ≤ 9223372036854775807 ∧ ∀ y ∈ q, Gd_Script y)) (G' := fun p : List GVat × List GChannel × List GNote × Int => (fun q : List GVat => (q.length ≤ 9223372036854775807 ∧ ∀ y ∈ q, Gd_Vat y)) p.1 ∧ (fun p : List GChannel × List GNote × Int => (fun q : List GChannel => (q.length ≤ 9223372036854775807 ∧ ∀ y ∈ q, kU y)) p.1 ∧ (fun p : List GNote × Int => (fun q : List GNote => (q.length ≤ 9223372036854775807 ∧ ∀ y ∈ q, Gd_Note y)) p.1 ∧ (fun p : Int => (Lit.int .i64 p).wf = true) p.2) p.2) p.2) ?_ ?_ ?_ ?_
  ·rfl
  ·kernel_rfl
  ·exact (dY zScript Tryz.underlying22 kR opens_Script)
  refine aK (G := fun q : List GVat => (q.length ≤ 9223372036854775807 ∧ ∀ y ∈ q, Gd_Vat y)) (G' := fun p : List GChannel × List GNote × Int => (fun q : List GChannel => (q.length ≤ 9223372036854775807 ∧ ∀ y ∈ q, kU y)) p.1 ∧ (fun p : List GNote × Int => (fun q : List GNote => (q.length ≤ 9223372036854775807 ∧ ∀ y ∈ q, Gd_Note y)) p.1 ∧ (fun p : Int => (Lit.int .i64 p).wf = true) p.2) p.2) ?_ ?_ ?_ ?_
  ·rfl
  ·kernel_rfl
  ·exact (dY zVat Tryz.underlying23 kR opens_Vat)
  refine aK (G := fun q : List GChannel => (q.length ≤ 9223372036854775807 ∧ ∀ y ∈ q, kU y)) (G' := fun p : List GNote × Int => (fun q : List GNote => (q.length ≤ 9223372036854775807 ∧ ∀ y ∈ q, Gd_Note y)) p.1 ∧ (fun p : Int => (Lit.int .i64 p).wf = true) p.2) ?_ ?_ ?_ ?_
  ·rfl
  ·kernel_rfl
  ·exact (dY nK Tryz.underlying24 kR opens_Channel)
  refine aK (G := fun q : List GNote => (q.length ≤ 9223372036854775807 ∧ ∀ y ∈ q, Gd_Note y)) (G' := fun p : Int => (Lit.int .i64 p).wf = true) ?_ ?_ ?_ ?_
  ·rfl
  ·kernel_rfl
  ·exact (dY zNote Tryz.underlying25 kR opens_Note)
  refine eO ?_ ?_ ?_
  ·rfl
  ·kernel_rfl
  ·exact (bD Tryz.underlying3)
 exact gG (fun x : GWorld => (x.bG, x.gT, x.bA, x.aB, x.fC)) (fun p => ⟨p.1, p.2.1, p.2.2.1, p.2.2.2.1, p.2.2.2.2⟩) (fun _ => rfl) h
end Go.Proofs.YtgaoabnnpjngcaaGreatK
