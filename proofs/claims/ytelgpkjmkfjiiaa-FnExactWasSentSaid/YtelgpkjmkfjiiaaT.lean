/- The program's plain types, how they are measured, counted and marked. No conditions. -/
import Derived.Test.YtelgpkjmkfjiiaaLst
namespace Go.Proofs.YtelgpkjmkfjiiaaT
open Go.Proofs.YtelgpkjmkfjiiaaSep
/-- The digits of a number. -/
def dgs (n : Nat) : List UInt8 := if n = 0 then [] else dgs (n / 10) ++ [UInt8.ofNat (48 + n % 10)]
termination_by n
/-- The text that marks a name: m and the digits. -/
def mtx (k : Int) : ByteArray := ⟨⟨109 :: (if k ≤ 0 then [48] else dgs k.toNat)⟩⟩
structure GValue where
  Kind : Int
  N : Int
def zValue : GValue := ⟨0, 0⟩
def szn_Value (_ : GValue) : Nat := 0
def Gd_Value (x : GValue) : Prop := (Lit.int .i64 x.Kind).wf = true ∧ (Lit.int .i64 x.N).wf = true
def cnt_Value (_ : GValue) : Int := ((0 + 1) + 1)
def mk_Value (k : Int) (_ : GValue) : GValue := ⟨k, (k + 1)⟩
theorem cnt_Value_nn (x : GValue) : 0 ≤ cnt_Value x := by
  unfold cnt_Value
  omega
theorem cnt_Value_le (x : GValue) : cnt_Value x ≤ 20 + 20 * (szn_Value x : Int) := by
  unfold cnt_Value szn_Value
  omega
structure GEvent where
  Kind : Int
  A : Int
  B : Int
  N : Int
  Name : ByteArray
  Args : List GValue
def zEvent : GEvent := ⟨0, 0, 0, 0, ⟨#[]⟩, []⟩
def szn_Event (x : GEvent) : Nat := x.Name.size + sznS szn_Value x.Args
def Bd_Event (x : GEvent) : Prop := x.Name.size ≤ 9223372036854775807
def Gd_Event (x : GEvent) : Prop := (Lit.int .i64 x.Kind).wf = true ∧ (Lit.int .i64 x.A).wf = true ∧ (Lit.int .i64 x.B).wf = true ∧ (Lit.int .i64 x.N).wf = true ∧ x.Name.size ≤ 9223372036854775807 ∧ (x.Args.length ≤ 9223372036854775807 ∧ ∀ y ∈ x.Args, Gd_Value y)
theorem Bd_of_Event {x : GEvent} (h : Gd_Event x) : Bd_Event x := by
  obtain ⟨g0, g1, g2, g3, g4, g5⟩ := h
  exact g4
def cnt_Event (x : GEvent) : Int := ((((((0 + 1) + 1) + 1) + 1) + 1) + cntS cnt_Value x.Args)
def mk_Event (k : Int) (x : GEvent) : GEvent := ⟨k, (k + 1), ((k + 1) + 1), (((k + 1) + 1) + 1), mtx (((((k + 1) + 1) + 1) + 1)), mkS mk_Value cnt_Value (((((k + 1) + 1) + 1) + 1) + 1) x.Args⟩
theorem cnt_Event_nn (x : GEvent) : 0 ≤ cnt_Event x := by
  have h5 := cntS_nn cnt_Value cnt_Value_nn x.Args
  unfold cnt_Event
  omega
theorem cnt_Event_le (x : GEvent) : cnt_Event x ≤ 20 + 20 * (szn_Event x : Int) := by
  have h5 := cntS_bound cnt_Value szn_Value cnt_Value_le x.Args
  unfold cnt_Event szn_Event
  omega
def cntv_Event (x : GEvent) : Int := (0 + cntS cnt_Value x.Args)
def mkv_Event (k : Int) (x : GEvent) : GEvent := ⟨x.Kind, x.A, x.B, x.N, x.Name, mkS mk_Value cnt_Value k x.Args⟩
structure GTag where
  Vat : Int
  Entity : Int
  Seq : Int
def zTag : GTag := ⟨0, 0, 0⟩
def szn_Tag (_ : GTag) : Nat := 0
def Gd_Tag (x : GTag) : Prop := (Lit.int .i64 x.Vat).wf = true ∧ (Lit.int .i64 x.Entity).wf = true ∧ (Lit.int .i64 x.Seq).wf = true
def cnt_Tag (_ : GTag) : Int := (((0 + 1) + 1) + 1)
def mk_Tag (k : Int) (_ : GTag) : GTag := ⟨k, (k + 1), ((k + 1) + 1)⟩
theorem cnt_Tag_nn (x : GTag) : 0 ≤ cnt_Tag x := by
  unfold cnt_Tag
  omega
theorem cnt_Tag_le (x : GTag) : cnt_Tag x ≤ 20 + 20 * (szn_Tag x : Int) := by
  unfold cnt_Tag szn_Tag
  omega
structure GNote where
  Kind : Int
  Vat : Int
  Entity : Int
  Tag : GTag
def zNote : GNote := ⟨0, 0, 0, zTag⟩
def szn_Note (_ : GNote) : Nat := 0
def Gd_Note (x : GNote) : Prop := (Lit.int .i64 x.Kind).wf = true ∧ (Lit.int .i64 x.Vat).wf = true ∧ (Lit.int .i64 x.Entity).wf = true ∧ Gd_Tag x.Tag
def cnt_Note (_ : GNote) : Int := ((((((0 + 1) + 1) + 1) + 1) + 1) + 1)
def mk_Note (k : Int) (_ : GNote) : GNote := ⟨k, (k + 1), ((k + 1) + 1), ⟨(((k + 1) + 1) + 1), ((((k + 1) + 1) + 1) + 1), (((((k + 1) + 1) + 1) + 1) + 1)⟩⟩
theorem cnt_Note_nn (x : GNote) : 0 ≤ cnt_Note x := by
  unfold cnt_Note
  omega
theorem cnt_Note_le (x : GNote) : cnt_Note x ≤ 20 + 20 * (szn_Note x : Int) := by
  unfold cnt_Note szn_Note
  omega
end Go.Proofs.YtelgpkjmkfjiiaaT
