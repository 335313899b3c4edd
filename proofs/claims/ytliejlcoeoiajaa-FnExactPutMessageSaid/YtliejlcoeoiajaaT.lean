/- The program's plain types, how they are measured, counted and marked. No conditions. -/
import Derived.Test.YtliejlcoeoiajaaLst
namespace Go.Proofs.YtliejlcoeoiajaaT
open Go.Proofs.YtliejlcoeoiajaaSep
/-- The digits of a number. -/
def dgs (n : Nat) : List UInt8 := if n = 0 then [] else dgs (n / 10) ++ [UInt8.ofNat (48 + n % 10)]
termination_by n
/-- The text that marks a name: m and the digits. -/
def mtx (k : Int) : ByteArray := ⟨⟨109 :: (if k ≤ 0 then [48] else dgs k.toNat)⟩⟩
structure GWire where
  Kind : Int
  N : Int
def zWire : GWire := ⟨0, 0⟩
def szn_Wire (_ : GWire) : Nat := 0
def Gd_Wire (x : GWire) : Prop := (Lit.int .i64 x.Kind).wf = true ∧ (Lit.int .i64 x.N).wf = true
def cnt_Wire (_ : GWire) : Int := ((0 + 1) + 1)
def mk_Wire (k : Int) (_ : GWire) : GWire := ⟨k, (k + 1)⟩
theorem cnt_Wire_nn (x : GWire) : 0 ≤ cnt_Wire x := by
  unfold cnt_Wire
  omega
theorem cnt_Wire_le (x : GWire) : cnt_Wire x ≤ 20 + 20 * (szn_Wire x : Int) := by
  unfold cnt_Wire szn_Wire
  omega
structure GTag where
  Vat : Int
  Entity : Int
  Seq : Int
def zTag : GTag := ⟨0, 0, 0⟩
def szn_Tag (_ : GTag) : Nat := 0
def Gd_Tag (x : GTag) : Prop := (Lit.int .i64 x.Vat).wf = true ∧ (Lit.int .i64 x.Entity).wf = true ∧ (Lit.int .i64 x.Seq).wf = true
def cnt_Tag (_ : GTag) : Int := (((0 + 1) + 1) + 1)
def mk_Tag (k : Int) (_ : GTag) : GTag := ⟨k, (k + 1), ((k + 1) + 1)⟩
theorem cnt_Tag_nn (x : GTag) : 0 ≤ cnt_Tag x := by
  unfold cnt_Tag
  omega
theorem cnt_Tag_le (x : GTag) : cnt_Tag x ≤ 20 + 20 * (szn_Tag x : Int) := by
  unfold cnt_Tag szn_Tag
  omega
structure GMessage where
  Kind : Int
  Pos : Int
  Answer : Int
  Question : Int
  Name : ByteArray
  Args : List GWire
  Value : GWire
  Count : Int
  Tag : GTag
def zMessage : GMessage := ⟨0, 0, 0, 0, ⟨#[]⟩, [], zWire, 0, zTag⟩
def szn_Message (x : GMessage) : Nat := x.Name.size + sznS szn_Wire x.Args
def Bd_Message (x : GMessage) : Prop := x.Name.size ≤ 9223372036854775807
def Gd_Message (x : GMessage) : Prop := (Lit.int .i64 x.Kind).wf = true ∧ (Lit.int .i64 x.Pos).wf = true ∧ (Lit.int .i64 x.Answer).wf = true ∧ (Lit.int .i64 x.Question).wf = true ∧ x.Name.size ≤ 9223372036854775807 ∧ (x.Args.length ≤ 9223372036854775807 ∧ ∀ y ∈ x.Args, Gd_Wire y) ∧ Gd_Wire x.Value ∧ (Lit.int .i64 x.Count).wf = true ∧ Gd_Tag x.Tag
theorem Bd_of_Message {x : GMessage} (h : Gd_Message x) : Bd_Message x := by
  obtain ⟨g0, g1, g2, g3, g4, g5, g6, g7, g8⟩ := h
  exact g4
def cnt_Message (x : GMessage) : Int := ((((((((((((0 + 1) + 1) + 1) + 1) + 1) + cntS cnt_Wire x.Args) + 1) + 1) + 1) + 1) + 1) + 1)
def mk_Message (k : Int) (x : GMessage) : GMessage := ⟨k, (k + 1), ((k + 1) + 1), (((k + 1) + 1) + 1), mtx (((((k + 1) + 1) + 1) + 1)), mkS mk_Wire cnt_Wire (((((k + 1) + 1) + 1) + 1) + 1) x.Args, ⟨((((((k + 1) + 1) + 1) + 1) + 1) + cntS cnt_Wire x.Args), (((((((k + 1) + 1) + 1) + 1) + 1) + cntS cnt_Wire x.Args) + 1)⟩, ((((((((k + 1) + 1) + 1) + 1) + 1) + cntS cnt_Wire x.Args) + 1) + 1), ⟨(((((((((k + 1) + 1) + 1) + 1) + 1) + cntS cnt_Wire x.Args) + 1) + 1) + 1), ((((((((((k + 1) + 1) + 1) + 1) + 1) + cntS cnt_Wire x.Args) + 1) + 1) + 1) + 1), (((((((((((k + 1) + 1) + 1) + 1) + 1) + cntS cnt_Wire x.Args) + 1) + 1) + 1) + 1) + 1)⟩⟩
theorem cnt_Message_nn (x : GMessage) : 0 ≤ cnt_Message x := by
  have h5 := cntS_nn cnt_Wire cnt_Wire_nn x.Args
  unfold cnt_Message
  omega
theorem cnt_Message_le (x : GMessage) : cnt_Message x ≤ 20 + 20 * (szn_Message x : Int) := by
  have h5 := cntS_bound cnt_Wire szn_Wire cnt_Wire_le x.Args
  unfold cnt_Message szn_Message
  omega
def cntv_Message (x : GMessage) : Int := (0 + cntS cnt_Wire x.Args)
def mkv_Message (k : Int) (x : GMessage) : GMessage := ⟨x.Kind, x.Pos, x.Answer, x.Question, x.Name, mkS mk_Wire cnt_Wire k x.Args, ⟨x.Value.Kind, x.Value.N⟩, x.Count, ⟨x.Tag.Vat, x.Tag.Entity, x.Tag.Seq⟩⟩
structure GChannel where
  From : Int
  To : Int
  List : List GMessage
def zChannel : GChannel := ⟨0, 0, []⟩
def szn_Channel (x : GChannel) : Nat := sznS szn_Message x.List
def Bd_Channel (x : GChannel) : Prop := (∀ y ∈ x.List, Bd_Message y)
def Gd_Channel (x : GChannel) : Prop := (Lit.int .i64 x.From).wf = true ∧ (Lit.int .i64 x.To).wf = true ∧ (x.List.length ≤ 9223372036854775807 ∧ ∀ y ∈ x.List, Gd_Message y)
theorem Bd_of_Channel {x : GChannel} (h : Gd_Channel x) : Bd_Channel x := by
  obtain ⟨g0, g1, g2⟩ := h
  exact (fun y hy => Bd_of_Message (g2.2 y hy))
def cnt_Channel (x : GChannel) : Int := (((0 + 1) + 1) + cntS cnt_Message x.List)
def mk_Channel (k : Int) (x : GChannel) : GChannel := ⟨k, (k + 1), mkS mk_Message cnt_Message ((k + 1) + 1) x.List⟩
theorem cnt_Channel_nn (x : GChannel) : 0 ≤ cnt_Channel x := by
  have h2 := cntS_nn cnt_Message cnt_Message_nn x.List
  unfold cnt_Channel
  omega
theorem cnt_Channel_le (x : GChannel) : cnt_Channel x ≤ 20 + 20 * (szn_Channel x : Int) := by
  have h2 := cntS_bound cnt_Message szn_Message cnt_Message_le x.List
  unfold cnt_Channel szn_Channel
  omega
def cntv_Channel (x : GChannel) : Int := (0 + cntS cnt_Message x.List)
def mkv_Channel (k : Int) (x : GChannel) : GChannel := ⟨x.From, x.To, mkS mk_Message cnt_Message k x.List⟩
structure GValue where
  Kind : Int
  N : Int
def zValue : GValue := ⟨0, 0⟩
def szn_Value (_ : GValue) : Nat := 0
def Gd_Value (x : GValue) : Prop := (Lit.int .i64 x.Kind).wf = true ∧ (Lit.int .i64 x.N).wf = true
def cnt_Value (_ : GValue) : Int := ((0 + 1) + 1)
def mk_Value (k : Int) (_ : GValue) : GValue := ⟨k, (k + 1)⟩
theorem cnt_Value_nn (x : GValue) : 0 ≤ cnt_Value x := by
  unfold cnt_Value
  omega
theorem cnt_Value_le (x : GValue) : cnt_Value x ≤ 20 + 20 * (szn_Value x : Int) := by
  unfold cnt_Value szn_Value
  omega
structure GEvent where
  Kind : Int
  A : Int
  B : Int
  N : Int
  Name : ByteArray
  Args : List GValue
def zEvent : GEvent := ⟨0, 0, 0, 0, ⟨#[]⟩, []⟩
def szn_Event (x : GEvent) : Nat := x.Name.size + sznS szn_Value x.Args
def Bd_Event (x : GEvent) : Prop := x.Name.size ≤ 9223372036854775807
def Gd_Event (x : GEvent) : Prop := (Lit.int .i64 x.Kind).wf = true ∧ (Lit.int .i64 x.A).wf = true ∧ (Lit.int .i64 x.B).wf = true ∧ (Lit.int .i64 x.N).wf = true ∧ x.Name.size ≤ 9223372036854775807 ∧ (x.Args.length ≤ 9223372036854775807 ∧ ∀ y ∈ x.Args, Gd_Value y)
theorem Bd_of_Event {x : GEvent} (h : Gd_Event x) : Bd_Event x := by
  obtain ⟨g0, g1, g2, g3, g4, g5⟩ := h
  exact g4
def cnt_Event (x : GEvent) : Int := ((((((0 + 1) + 1) + 1) + 1) + 1) + cntS cnt_Value x.Args)
def mk_Event (k : Int) (x : GEvent) : GEvent := ⟨k, (k + 1), ((k + 1) + 1), (((k + 1) + 1) + 1), mtx (((((k + 1) + 1) + 1) + 1)), mkS mk_Value cnt_Value (((((k + 1) + 1) + 1) + 1) + 1) x.Args⟩
theorem cnt_Event_nn (x : GEvent) : 0 ≤ cnt_Event x := by
  have h5 := cntS_nn cnt_Value cnt_Value_nn x.Args
  unfold cnt_Event
  omega
theorem cnt_Event_le (x : GEvent) : cnt_Event x ≤ 20 + 20 * (szn_Event x : Int) := by
  have h5 := cntS_bound cnt_Value szn_Value cnt_Value_le x.Args
  unfold cnt_Event szn_Event
  omega
def cntv_Event (x : GEvent) : Int := (0 + cntS cnt_Value x.Args)
def mkv_Event (k : Int) (x : GEvent) : GEvent := ⟨x.Kind, x.A, x.B, x.N, x.Name, mkS mk_Value cnt_Value k x.Args⟩
structure GInstr where
  Op : Int
  A : Int
  B : Int
  C : Int
  D : Int
  Name : ByteArray
def zInstr : GInstr := ⟨0, 0, 0, 0, 0, ⟨#[]⟩⟩
def szn_Instr (x : GInstr) : Nat := x.Name.size
def Bd_Instr (x : GInstr) : Prop := x.Name.size ≤ 9223372036854775807
def Gd_Instr (x : GInstr) : Prop := (Lit.int .i64 x.Op).wf = true ∧ (Lit.int .i64 x.A).wf = true ∧ (Lit.int .i64 x.B).wf = true ∧ (Lit.int .i64 x.C).wf = true ∧ (Lit.int .i64 x.D).wf = true ∧ x.Name.size ≤ 9223372036854775807
theorem Bd_of_Instr {x : GInstr} (h : Gd_Instr x) : Bd_Instr x := by
  obtain ⟨g0, g1, g2, g3, g4, g5⟩ := h
  exact g5
def cnt_Instr (_ : GInstr) : Int := ((((((0 + 1) + 1) + 1) + 1) + 1) + 1)
def mk_Instr (k : Int) (_ : GInstr) : GInstr := ⟨k, (k + 1), ((k + 1) + 1), (((k + 1) + 1) + 1), ((((k + 1) + 1) + 1) + 1), mtx ((((((k + 1) + 1) + 1) + 1) + 1))⟩
theorem cnt_Instr_nn (x : GInstr) : 0 ≤ cnt_Instr x := by
  unfold cnt_Instr
  omega
theorem cnt_Instr_le (x : GInstr) : cnt_Instr x ≤ 20 + 20 * (szn_Instr x : Int) := by
  unfold cnt_Instr szn_Instr
  omega
structure GMethod where
  Name : ByteArray
  Code : List GInstr
def zMethod : GMethod := ⟨⟨#[]⟩, []⟩
def szn_Method (x : GMethod) : Nat := x.Name.size + sznS szn_Instr x.Code
def Bd_Method (x : GMethod) : Prop := x.Name.size ≤ 9223372036854775807 ∧ (∀ y ∈ x.Code, Bd_Instr y)
def Gd_Method (x : GMethod) : Prop := x.Name.size ≤ 9223372036854775807 ∧ (x.Code.length ≤ 9223372036854775807 ∧ ∀ y ∈ x.Code, Gd_Instr y)
theorem Bd_of_Method {x : GMethod} (h : Gd_Method x) : Bd_Method x := by
  obtain ⟨g0, g1⟩ := h
  exact ⟨g0, (fun y hy => Bd_of_Instr (g1.2 y hy))⟩
def cnt_Method (x : GMethod) : Int := ((0 + 1) + cntS cnt_Instr x.Code)
def mk_Method (k : Int) (x : GMethod) : GMethod := ⟨mtx (k), mkS mk_Instr cnt_Instr (k + 1) x.Code⟩
theorem cnt_Method_nn (x : GMethod) : 0 ≤ cnt_Method x := by
  have h1 := cntS_nn cnt_Instr cnt_Instr_nn x.Code
  unfold cnt_Method
  omega
theorem cnt_Method_le (x : GMethod) : cnt_Method x ≤ 20 + 20 * (szn_Method x : Int) := by
  have h1 := cntS_bound cnt_Instr szn_Instr cnt_Instr_le x.Code
  unfold cnt_Method szn_Method
  omega
def cntv_Method (x : GMethod) : Int := (0 + cntS cnt_Instr x.Code)
def mkv_Method (k : Int) (x : GMethod) : GMethod := ⟨x.Name, mkS mk_Instr cnt_Instr k x.Code⟩
structure GScript where
  Name : ByteArray
  Methods : List GMethod
def zScript : GScript := ⟨⟨#[]⟩, []⟩
def szn_Script (x : GScript) : Nat := x.Name.size + sznS szn_Method x.Methods
def Bd_Script (x : GScript) : Prop := x.Name.size ≤ 9223372036854775807 ∧ (∀ y ∈ x.Methods, Bd_Method y)
def Gd_Script (x : GScript) : Prop := x.Name.size ≤ 9223372036854775807 ∧ (x.Methods.length ≤ 9223372036854775807 ∧ ∀ y ∈ x.Methods, Gd_Method y)
theorem Bd_of_Script {x : GScript} (h : Gd_Script x) : Bd_Script x := by
  obtain ⟨g0, g1⟩ := h
  exact ⟨g0, (fun y hy => Bd_of_Method (g1.2 y hy))⟩
def cnt_Script (x : GScript) : Int := ((0 + 1) + cntS cnt_Method x.Methods)
def mk_Script (k : Int) (x : GScript) : GScript := ⟨mtx (k), mkS mk_Method cnt_Method (k + 1) x.Methods⟩
theorem cnt_Script_nn (x : GScript) : 0 ≤ cnt_Script x := by
  have h1 := cntS_nn cnt_Method cnt_Method_nn x.Methods
  unfold cnt_Script
  omega
theorem cnt_Script_le (x : GScript) : cnt_Script x ≤ 20 + 20 * (szn_Script x : Int) := by
  have h1 := cntS_bound cnt_Method szn_Method cnt_Method_le x.Methods
  unfold cnt_Script szn_Script
  omega
def cntv_Script (x : GScript) : Int := (0 + cntS cnt_Method x.Methods)
def mkv_Script (k : Int) (x : GScript) : GScript := ⟨x.Name, mkS mk_Method cnt_Method k x.Methods⟩
end Go.Proofs.YtliejlcoeoiajaaT
