/- The program's plain types, how they are measured, counted and marked. No conditions. -/
import Derived.Test.YtfnedoiplblldaaLst
namespace Go.Proofs.YtfnedoiplblldaaT
open Go.Proofs.YtfnedoiplblldaaSep
/-- The digits of a number. -/
def dgs (n : Nat) : List UInt8 := if n = 0 then [] else dgs (n / 10) ++ [UInt8.ofNat (48 + n % 10)]
termination_by n
/-- The text that marks a name: m and the digits. -/
def mtx (k : Int) : ByteArray := ⟨⟨109 :: (if k ≤ 0 then [48] else dgs k.toNat)⟩⟩
structure GValue where
  Kind : Int
  N : Int
def zValue : GValue := ⟨0, 0⟩
def szn_Value (_ : GValue) : Nat := 0
def Gd_Value (x : GValue) : Prop := (Lit.int .i64 x.Kind).wf = true ∧ (Lit.int .i64 x.N).wf = true
def cnt_Value (_ : GValue) : Int := ((0 + 1) + 1)
def mk_Value (k : Int) (_ : GValue) : GValue := ⟨k, (k + 1)⟩
theorem cnt_Value_nn (x : GValue) : 0 ≤ cnt_Value x := by
  unfold cnt_Value
  omega
theorem cnt_Value_le (x : GValue) : cnt_Value x ≤ 20 + 20 * (szn_Value x : Int) := by
  unfold cnt_Value szn_Value
  omega
structure GTag where
  Vat : Int
  Entity : Int
  Seq : Int
def zTag : GTag := ⟨0, 0, 0⟩
def szn_Tag (_ : GTag) : Nat := 0
def Gd_Tag (x : GTag) : Prop := (Lit.int .i64 x.Vat).wf = true ∧ (Lit.int .i64 x.Entity).wf = true ∧ (Lit.int .i64 x.Seq).wf = true
def cnt_Tag (_ : GTag) : Int := (((0 + 1) + 1) + 1)
def mk_Tag (k : Int) (_ : GTag) : GTag := ⟨k, (k + 1), ((k + 1) + 1)⟩
theorem cnt_Tag_nn (x : GTag) : 0 ≤ cnt_Tag x := by
  unfold cnt_Tag
  omega
theorem cnt_Tag_le (x : GTag) : cnt_Tag x ≤ 20 + 20 * (szn_Tag x : Int) := by
  unfold cnt_Tag szn_Tag
  omega
structure GSent where
  Target : Int
  Name : ByteArray
  Args : List GValue
  Result : Int
  Tag : GTag
def zSent : GSent := ⟨0, ⟨#[]⟩, [], 0, zTag⟩
def szn_Sent (x : GSent) : Nat := x.Name.size + sznS szn_Value x.Args
def Bd_Sent (x : GSent) : Prop := x.Name.size ≤ 9223372036854775807
def Gd_Sent (x : GSent) : Prop := (Lit.int .i64 x.Target).wf = true ∧ x.Name.size ≤ 9223372036854775807 ∧ (x.Args.length ≤ 9223372036854775807 ∧ ∀ y ∈ x.Args, Gd_Value y) ∧ (Lit.int .i64 x.Result).wf = true ∧ Gd_Tag x.Tag
theorem Bd_of_Sent {x : GSent} (h : Gd_Sent x) : Bd_Sent x := by
  obtain ⟨g0, g1, g2, g3, g4⟩ := h
  exact g1
def cnt_Sent (x : GSent) : Int := (((((((0 + 1) + 1) + cntS cnt_Value x.Args) + 1) + 1) + 1) + 1)
def mk_Sent (k : Int) (x : GSent) : GSent := ⟨k, mtx ((k + 1)), mkS mk_Value cnt_Value ((k + 1) + 1) x.Args, (((k + 1) + 1) + cntS cnt_Value x.Args), ⟨((((k + 1) + 1) + cntS cnt_Value x.Args) + 1), (((((k + 1) + 1) + cntS cnt_Value x.Args) + 1) + 1), ((((((k + 1) + 1) + cntS cnt_Value x.Args) + 1) + 1) + 1)⟩⟩
theorem cnt_Sent_nn (x : GSent) : 0 ≤ cnt_Sent x := by
  have h2 := cntS_nn cnt_Value cnt_Value_nn x.Args
  unfold cnt_Sent
  omega
theorem cnt_Sent_le (x : GSent) : cnt_Sent x ≤ 20 + 20 * (szn_Sent x : Int) := by
  have h2 := cntS_bound cnt_Value szn_Value cnt_Value_le x.Args
  unfold cnt_Sent szn_Sent
  omega
def cntv_Sent (x : GSent) : Int := (0 + cntS cnt_Value x.Args)
def mkv_Sent (k : Int) (x : GSent) : GSent := ⟨x.Target, x.Name, mkS mk_Value cnt_Value k x.Args, x.Result, ⟨x.Tag.Vat, x.Tag.Entity, x.Tag.Seq⟩⟩
structure GAsker where
  Peer : Int
  Question : Int
def zAsker : GAsker := ⟨0, 0⟩
def szn_Asker (_ : GAsker) : Nat := 0
def Gd_Asker (x : GAsker) : Prop := (Lit.int .i64 x.Peer).wf = true ∧ (Lit.int .i64 x.Question).wf = true
def cnt_Asker (_ : GAsker) : Int := ((0 + 1) + 1)
def mk_Asker (k : Int) (_ : GAsker) : GAsker := ⟨k, (k + 1)⟩
theorem cnt_Asker_nn (x : GAsker) : 0 ≤ cnt_Asker x := by
  unfold cnt_Asker
  omega
theorem cnt_Asker_le (x : GAsker) : cnt_Asker x ≤ 20 + 20 * (szn_Asker x : Int) := by
  unfold cnt_Asker szn_Asker
  omega
structure GEntity where
  Kind : Int
  Script : Int
  Slots : List GValue
  State : Int
  Value : GValue
  Queue : List GSent
  Askers : List GAsker
  Peer : Int
  Pos : Int
  Count : Int
  Sent : Int
def zEntity : GEntity := ⟨0, 0, [], 0, zValue, [], [], 0, 0, 0, 0⟩
def szn_Entity (x : GEntity) : Nat := sznS szn_Value x.Slots + sznS szn_Sent x.Queue + sznS szn_Asker x.Askers
def Bd_Entity (x : GEntity) : Prop := (∀ y ∈ x.Queue, Bd_Sent y)
def Gd_Entity (x : GEntity) : Prop := (Lit.int .i64 x.Kind).wf = true ∧ (Lit.int .i64 x.Script).wf = true ∧ (x.Slots.length ≤ 9223372036854775807 ∧ ∀ y ∈ x.Slots, Gd_Value y) ∧ (Lit.int .i64 x.State).wf = true ∧ Gd_Value x.Value ∧ (x.Queue.length ≤ 9223372036854775807 ∧ ∀ y ∈ x.Queue, Gd_Sent y) ∧ (x.Askers.length ≤ 9223372036854775807 ∧ ∀ y ∈ x.Askers, Gd_Asker y) ∧ (Lit.int .i64 x.Peer).wf = true ∧ (Lit.int .i64 x.Pos).wf = true ∧ (Lit.int .i64 x.Count).wf = true ∧ (Lit.int .i64 x.Sent).wf = true
theorem Bd_of_Entity {x : GEntity} (h : Gd_Entity x) : Bd_Entity x := by
  obtain ⟨g0, g1, g2, g3, g4, g5, g6, g7, g8, g9, g10⟩ := h
  exact (fun y hy => Bd_of_Sent (g5.2 y hy))
def cnt_Entity (x : GEntity) : Int := ((((((((((((0 + 1) + 1) + cntS cnt_Value x.Slots) + 1) + 1) + 1) + cntS cnt_Sent x.Queue) + cntS cnt_Asker x.Askers) + 1) + 1) + 1) + 1)
def mk_Entity (k : Int) (x : GEntity) : GEntity := ⟨k, (k + 1), mkS mk_Value cnt_Value ((k + 1) + 1) x.Slots, (((k + 1) + 1) + cntS cnt_Value x.Slots), ⟨((((k + 1) + 1) + cntS cnt_Value x.Slots) + 1), (((((k + 1) + 1) + cntS cnt_Value x.Slots) + 1) + 1)⟩, mkS mk_Sent cnt_Sent ((((((k + 1) + 1) + cntS cnt_Value x.Slots) + 1) + 1) + 1) x.Queue, mkS mk_Asker cnt_Asker (((((((k + 1) + 1) + cntS cnt_Value x.Slots) + 1) + 1) + 1) + cntS cnt_Sent x.Queue) x.Askers, ((((((((k + 1) + 1) + cntS cnt_Value x.Slots) + 1) + 1) + 1) + cntS cnt_Sent x.Queue) + cntS cnt_Asker x.Askers), (((((((((k + 1) + 1) + cntS cnt_Value x.Slots) + 1) + 1) + 1) + cntS cnt_Sent x.Queue) + cntS cnt_Asker x.Askers) + 1), ((((((((((k + 1) + 1) + cntS cnt_Value x.Slots) + 1) + 1) + 1) + cntS cnt_Sent x.Queue) + cntS cnt_Asker x.Askers) + 1) + 1), (((((((((((k + 1) + 1) + cntS cnt_Value x.Slots) + 1) + 1) + 1) + cntS cnt_Sent x.Queue) + cntS cnt_Asker x.Askers) + 1) + 1) + 1)⟩
theorem cnt_Entity_nn (x : GEntity) : 0 ≤ cnt_Entity x := by
  have h2 := cntS_nn cnt_Value cnt_Value_nn x.Slots
  have h6 := cntS_nn cnt_Sent cnt_Sent_nn x.Queue
  have h7 := cntS_nn cnt_Asker cnt_Asker_nn x.Askers
  unfold cnt_Entity
  omega
theorem cnt_Entity_le (x : GEntity) : cnt_Entity x ≤ 20 + 20 * (szn_Entity x : Int) := by
  have h2 := cntS_bound cnt_Value szn_Value cnt_Value_le x.Slots
  have h6 := cntS_bound cnt_Sent szn_Sent cnt_Sent_le x.Queue
  have h7 := cntS_bound cnt_Asker szn_Asker cnt_Asker_le x.Askers
  unfold cnt_Entity szn_Entity
  omega
def cntv_Entity (x : GEntity) : Int := (((0 + cntS cnt_Value x.Slots) + cntS cnt_Sent x.Queue) + cntS cnt_Asker x.Askers)
def mkv_Entity (k : Int) (x : GEntity) : GEntity := ⟨x.Kind, x.Script, mkS mk_Value cnt_Value k x.Slots, x.State, ⟨x.Value.Kind, x.Value.N⟩, mkS mk_Sent cnt_Sent (k + cntS cnt_Value x.Slots) x.Queue, mkS mk_Asker cnt_Asker ((k + cntS cnt_Value x.Slots) + cntS cnt_Sent x.Queue) x.Askers, x.Peer, x.Pos, x.Count, x.Sent⟩
structure GExport where
  Pos : Int
  Entity : Int
  Count : Int
def zExport : GExport := ⟨0, 0, 0⟩
def szn_Export (_ : GExport) : Nat := 0
def Gd_Export (x : GExport) : Prop := (Lit.int .i64 x.Pos).wf = true ∧ (Lit.int .i64 x.Entity).wf = true ∧ (Lit.int .i64 x.Count).wf = true
def cnt_Export (_ : GExport) : Int := (((0 + 1) + 1) + 1)
def mk_Export (k : Int) (_ : GExport) : GExport := ⟨k, (k + 1), ((k + 1) + 1)⟩
theorem cnt_Export_nn (x : GExport) : 0 ≤ cnt_Export x := by
  unfold cnt_Export
  omega
theorem cnt_Export_le (x : GExport) : cnt_Export x ≤ 20 + 20 * (szn_Export x : Int) := by
  unfold cnt_Export szn_Export
  omega
structure GQuestion where
  Id : Int
  Promise : Int
def zQuestion : GQuestion := ⟨0, 0⟩
def szn_Question (_ : GQuestion) : Nat := 0
def Gd_Question (x : GQuestion) : Prop := (Lit.int .i64 x.Id).wf = true ∧ (Lit.int .i64 x.Promise).wf = true
def cnt_Question (_ : GQuestion) : Int := ((0 + 1) + 1)
def mk_Question (k : Int) (_ : GQuestion) : GQuestion := ⟨k, (k + 1)⟩
theorem cnt_Question_nn (x : GQuestion) : 0 ≤ cnt_Question x := by
  unfold cnt_Question
  omega
theorem cnt_Question_le (x : GQuestion) : cnt_Question x ≤ 20 + 20 * (szn_Question x : Int) := by
  unfold cnt_Question szn_Question
  omega
structure GLink where
  Peer : Int
  Up : Bool
  Exports : List GExport
  Next : Int
  Questions : List GQuestion
  Asked : Int
  Answers : List GQuestion
def zLink : GLink := ⟨0, false, [], 0, [], 0, []⟩
def szn_Link (x : GLink) : Nat := sznS szn_Export x.Exports + sznS szn_Question x.Questions + sznS szn_Question x.Answers
def Gd_Link (x : GLink) : Prop := (Lit.int .i64 x.Peer).wf = true ∧ True ∧ (x.Exports.length ≤ 9223372036854775807 ∧ ∀ y ∈ x.Exports, Gd_Export y) ∧ (Lit.int .i64 x.Next).wf = true ∧ (x.Questions.length ≤ 9223372036854775807 ∧ ∀ y ∈ x.Questions, Gd_Question y) ∧ (Lit.int .i64 x.Asked).wf = true ∧ (x.Answers.length ≤ 9223372036854775807 ∧ ∀ y ∈ x.Answers, Gd_Question y)
def cnt_Link (x : GLink) : Int := (((((((0 + 1) + 1) + cntS cnt_Export x.Exports) + 1) + cntS cnt_Question x.Questions) + 1) + cntS cnt_Question x.Answers)
def mk_Link (k : Int) (x : GLink) : GLink := ⟨k, (((k + 1)) % 3 == 0), mkS mk_Export cnt_Export ((k + 1) + 1) x.Exports, (((k + 1) + 1) + cntS cnt_Export x.Exports), mkS mk_Question cnt_Question ((((k + 1) + 1) + cntS cnt_Export x.Exports) + 1) x.Questions, (((((k + 1) + 1) + cntS cnt_Export x.Exports) + 1) + cntS cnt_Question x.Questions), mkS mk_Question cnt_Question ((((((k + 1) + 1) + cntS cnt_Export x.Exports) + 1) + cntS cnt_Question x.Questions) + 1) x.Answers⟩
theorem cnt_Link_nn (x : GLink) : 0 ≤ cnt_Link x := by
  have h2 := cntS_nn cnt_Export cnt_Export_nn x.Exports
  have h4 := cntS_nn cnt_Question cnt_Question_nn x.Questions
  have h6 := cntS_nn cnt_Question cnt_Question_nn x.Answers
  unfold cnt_Link
  omega
theorem cnt_Link_le (x : GLink) : cnt_Link x ≤ 20 + 20 * (szn_Link x : Int) := by
  have h2 := cntS_bound cnt_Export szn_Export cnt_Export_le x.Exports
  have h4 := cntS_bound cnt_Question szn_Question cnt_Question_le x.Questions
  have h6 := cntS_bound cnt_Question szn_Question cnt_Question_le x.Answers
  unfold cnt_Link szn_Link
  omega
def cntv_Link (x : GLink) : Int := (((0 + cntS cnt_Export x.Exports) + cntS cnt_Question x.Questions) + cntS cnt_Question x.Answers)
def mkv_Link (k : Int) (x : GLink) : GLink := ⟨x.Peer, x.Up, mkS mk_Export cnt_Export k x.Exports, x.Next, mkS mk_Question cnt_Question (k + cntS cnt_Export x.Exports) x.Questions, x.Asked, mkS mk_Question cnt_Question ((k + cntS cnt_Export x.Exports) + cntS cnt_Question x.Questions) x.Answers⟩
structure GWire where
  Kind : Int
  N : Int
def zWire : GWire := ⟨0, 0⟩
def szn_Wire (_ : GWire) : Nat := 0
def Gd_Wire (x : GWire) : Prop := (Lit.int .i64 x.Kind).wf = true ∧ (Lit.int .i64 x.N).wf = true
def cnt_Wire (_ : GWire) : Int := ((0 + 1) + 1)
def mk_Wire (k : Int) (_ : GWire) : GWire := ⟨k, (k + 1)⟩
theorem cnt_Wire_nn (x : GWire) : 0 ≤ cnt_Wire x := by
  unfold cnt_Wire
  omega
theorem cnt_Wire_le (x : GWire) : cnt_Wire x ≤ 20 + 20 * (szn_Wire x : Int) := by
  unfold cnt_Wire szn_Wire
  omega
structure GMessage where
  Kind : Int
  Pos : Int
  Answer : Int
  Question : Int
  Name : ByteArray
  Args : List GWire
  Value : GWire
  Count : Int
  Tag : GTag
def zMessage : GMessage := ⟨0, 0, 0, 0, ⟨#[]⟩, [], zWire, 0, zTag⟩
def szn_Message (x : GMessage) : Nat := x.Name.size + sznS szn_Wire x.Args
def Bd_Message (x : GMessage) : Prop := x.Name.size ≤ 9223372036854775807
def Gd_Message (x : GMessage) : Prop := (Lit.int .i64 x.Kind).wf = true ∧ (Lit.int .i64 x.Pos).wf = true ∧ (Lit.int .i64 x.Answer).wf = true ∧ (Lit.int .i64 x.Question).wf = true ∧ x.Name.size ≤ 9223372036854775807 ∧ (x.Args.length ≤ 9223372036854775807 ∧ ∀ y ∈ x.Args, Gd_Wire y) ∧ Gd_Wire x.Value ∧ (Lit.int .i64 x.Count).wf = true ∧ Gd_Tag x.Tag
theorem Bd_of_Message {x : GMessage} (h : Gd_Message x) : Bd_Message x := by
  obtain ⟨g0, g1, g2, g3, g4, g5, g6, g7, g8⟩ := h
  exact g4
def cnt_Message (x : GMessage) : Int := ((((((((((((0 + 1) + 1) + 1) + 1) + 1) + cntS cnt_Wire x.Args) + 1) + 1) + 1) + 1) + 1) + 1)
def mk_Message (k : Int) (x : GMessage) : GMessage := ⟨k, (k + 1), ((k + 1) + 1), (((k + 1) + 1) + 1), mtx (((((k + 1) + 1) + 1) + 1)), mkS mk_Wire cnt_Wire (((((k + 1) + 1) + 1) + 1) + 1) x.Args, ⟨((((((k + 1) + 1) + 1) + 1) + 1) + cntS cnt_Wire x.Args), (((((((k + 1) + 1) + 1) + 1) + 1) + cntS cnt_Wire x.Args) + 1)⟩, ((((((((k + 1) + 1) + 1) + 1) + 1) + cntS cnt_Wire x.Args) + 1) + 1), ⟨(((((((((k + 1) + 1) + 1) + 1) + 1) + cntS cnt_Wire x.Args) + 1) + 1) + 1), ((((((((((k + 1) + 1) + 1) + 1) + 1) + cntS cnt_Wire x.Args) + 1) + 1) + 1) + 1), (((((((((((k + 1) + 1) + 1) + 1) + 1) + cntS cnt_Wire x.Args) + 1) + 1) + 1) + 1) + 1)⟩⟩
theorem cnt_Message_nn (x : GMessage) : 0 ≤ cnt_Message x := by
  have h5 := cntS_nn cnt_Wire cnt_Wire_nn x.Args
  unfold cnt_Message
  omega
theorem cnt_Message_le (x : GMessage) : cnt_Message x ≤ 20 + 20 * (szn_Message x : Int) := by
  have h5 := cntS_bound cnt_Wire szn_Wire cnt_Wire_le x.Args
  unfold cnt_Message szn_Message
  omega
def cntv_Message (x : GMessage) : Int := (0 + cntS cnt_Wire x.Args)
def mkv_Message (k : Int) (x : GMessage) : GMessage := ⟨x.Kind, x.Pos, x.Answer, x.Question, x.Name, mkS mk_Wire cnt_Wire k x.Args, ⟨x.Value.Kind, x.Value.N⟩, x.Count, ⟨x.Tag.Vat, x.Tag.Entity, x.Tag.Seq⟩⟩
structure GOutgoing where
  To : Int
  Message : GMessage
def zOutgoing : GOutgoing := ⟨0, zMessage⟩
def szn_Outgoing (x : GOutgoing) : Nat := szn_Message x.Message
def Bd_Outgoing (x : GOutgoing) : Prop := Bd_Message x.Message
def Gd_Outgoing (x : GOutgoing) : Prop := (Lit.int .i64 x.To).wf = true ∧ Gd_Message x.Message
theorem Bd_of_Outgoing {x : GOutgoing} (h : Gd_Outgoing x) : Bd_Outgoing x := by
  obtain ⟨g0, g1⟩ := h
  exact Bd_of_Message g1
def cnt_Outgoing (x : GOutgoing) : Int := (((((((((((((0 + 1) + 1) + 1) + 1) + 1) + 1) + cntS cnt_Wire x.Message.Args) + 1) + 1) + 1) + 1) + 1) + 1)
def mk_Outgoing (k : Int) (x : GOutgoing) : GOutgoing := ⟨k, ⟨(k + 1), ((k + 1) + 1), (((k + 1) + 1) + 1), ((((k + 1) + 1) + 1) + 1), mtx ((((((k + 1) + 1) + 1) + 1) + 1)), mkS mk_Wire cnt_Wire ((((((k + 1) + 1) + 1) + 1) + 1) + 1) x.Message.Args, ⟨(((((((k + 1) + 1) + 1) + 1) + 1) + 1) + cntS cnt_Wire x.Message.Args), ((((((((k + 1) + 1) + 1) + 1) + 1) + 1) + cntS cnt_Wire x.Message.Args) + 1)⟩, (((((((((k + 1) + 1) + 1) + 1) + 1) + 1) + cntS cnt_Wire x.Message.Args) + 1) + 1), ⟨((((((((((k + 1) + 1) + 1) + 1) + 1) + 1) + cntS cnt_Wire x.Message.Args) + 1) + 1) + 1), (((((((((((k + 1) + 1) + 1) + 1) + 1) + 1) + cntS cnt_Wire x.Message.Args) + 1) + 1) + 1) + 1), ((((((((((((k + 1) + 1) + 1) + 1) + 1) + 1) + cntS cnt_Wire x.Message.Args) + 1) + 1) + 1) + 1) + 1)⟩⟩⟩
theorem cnt_Outgoing_nn (x : GOutgoing) : 0 ≤ cnt_Outgoing x := by
  have h6 := cntS_nn cnt_Wire cnt_Wire_nn x.Message.Args
  unfold cnt_Outgoing
  omega
theorem cnt_Outgoing_le (x : GOutgoing) : cnt_Outgoing x ≤ 20 + 20 * (szn_Outgoing x : Int) := by
  have h6 := cntS_bound cnt_Wire szn_Wire cnt_Wire_le x.Message.Args
  unfold cnt_Outgoing szn_Outgoing szn_Message
  omega
def cntv_Outgoing (x : GOutgoing) : Int := (0 + cntS cnt_Wire x.Message.Args)
def mkv_Outgoing (k : Int) (x : GOutgoing) : GOutgoing := ⟨x.To, ⟨x.Message.Kind, x.Message.Pos, x.Message.Answer, x.Message.Question, x.Message.Name, mkS mk_Wire cnt_Wire k x.Message.Args, ⟨x.Message.Value.Kind, x.Message.Value.N⟩, x.Message.Count, ⟨x.Message.Tag.Vat, x.Message.Tag.Entity, x.Message.Tag.Seq⟩⟩⟩
structure GVat where
  Id : Int
  Entities : List GEntity
  Loop : List GSent
  Links : List GLink
  Out : List GOutgoing
def zVat : GVat := ⟨0, [], [], [], []⟩
def szn_Vat (x : GVat) : Nat := sznS szn_Entity x.Entities + sznS szn_Sent x.Loop + sznS szn_Link x.Links + sznS szn_Outgoing x.Out
def Bd_Vat (x : GVat) : Prop := (∀ y ∈ x.Entities, Bd_Entity y) ∧ (∀ y ∈ x.Loop, Bd_Sent y) ∧ (∀ y ∈ x.Out, Bd_Outgoing y)
def Gd_Vat (x : GVat) : Prop := (Lit.int .i64 x.Id).wf = true ∧ (x.Entities.length ≤ 9223372036854775807 ∧ ∀ y ∈ x.Entities, Gd_Entity y) ∧ (x.Loop.length ≤ 9223372036854775807 ∧ ∀ y ∈ x.Loop, Gd_Sent y) ∧ (x.Links.length ≤ 9223372036854775807 ∧ ∀ y ∈ x.Links, Gd_Link y) ∧ (x.Out.length ≤ 9223372036854775807 ∧ ∀ y ∈ x.Out, Gd_Outgoing y)
theorem Bd_of_Vat {x : GVat} (h : Gd_Vat x) : Bd_Vat x := by
  obtain ⟨g0, g1, g2, g3, g4⟩ := h
  exact ⟨(fun y hy => Bd_of_Entity (g1.2 y hy)), (fun y hy => Bd_of_Sent (g2.2 y hy)), (fun y hy => Bd_of_Outgoing (g4.2 y hy))⟩
def cnt_Vat (x : GVat) : Int := (((((0 + 1) + cntS cnt_Entity x.Entities) + cntS cnt_Sent x.Loop) + cntS cnt_Link x.Links) + cntS cnt_Outgoing x.Out)
def mk_Vat (k : Int) (x : GVat) : GVat := ⟨k, mkS mk_Entity cnt_Entity (k + 1) x.Entities, mkS mk_Sent cnt_Sent ((k + 1) + cntS cnt_Entity x.Entities) x.Loop, mkS mk_Link cnt_Link (((k + 1) + cntS cnt_Entity x.Entities) + cntS cnt_Sent x.Loop) x.Links, mkS mk_Outgoing cnt_Outgoing ((((k + 1) + cntS cnt_Entity x.Entities) + cntS cnt_Sent x.Loop) + cntS cnt_Link x.Links) x.Out⟩
theorem cnt_Vat_nn (x : GVat) : 0 ≤ cnt_Vat x := by
  have h1 := cntS_nn cnt_Entity cnt_Entity_nn x.Entities
  have h2 := cntS_nn cnt_Sent cnt_Sent_nn x.Loop
  have h3 := cntS_nn cnt_Link cnt_Link_nn x.Links
  have h4 := cntS_nn cnt_Outgoing cnt_Outgoing_nn x.Out
  unfold cnt_Vat
  omega
theorem cnt_Vat_le (x : GVat) : cnt_Vat x ≤ 20 + 20 * (szn_Vat x : Int) := by
  have h1 := cntS_bound cnt_Entity szn_Entity cnt_Entity_le x.Entities
  have h2 := cntS_bound cnt_Sent szn_Sent cnt_Sent_le x.Loop
  have h3 := cntS_bound cnt_Link szn_Link cnt_Link_le x.Links
  have h4 := cntS_bound cnt_Outgoing szn_Outgoing cnt_Outgoing_le x.Out
  unfold cnt_Vat szn_Vat
  omega
def cntv_Vat (x : GVat) : Int := ((((0 + cntS cnt_Entity x.Entities) + cntS cnt_Sent x.Loop) + cntS cnt_Link x.Links) + cntS cnt_Outgoing x.Out)
def mkv_Vat (k : Int) (x : GVat) : GVat := ⟨x.Id, mkS mk_Entity cnt_Entity k x.Entities, mkS mk_Sent cnt_Sent (k + cntS cnt_Entity x.Entities) x.Loop, mkS mk_Link cnt_Link ((k + cntS cnt_Entity x.Entities) + cntS cnt_Sent x.Loop) x.Links, mkS mk_Outgoing cnt_Outgoing (((k + cntS cnt_Entity x.Entities) + cntS cnt_Sent x.Loop) + cntS cnt_Link x.Links) x.Out⟩
structure GChannel where
  From : Int
  To : Int
  List : List GMessage
def zChannel : GChannel := ⟨0, 0, []⟩
def szn_Channel (x : GChannel) : Nat := sznS szn_Message x.List
def Bd_Channel (x : GChannel) : Prop := (∀ y ∈ x.List, Bd_Message y)
def Gd_Channel (x : GChannel) : Prop := (Lit.int .i64 x.From).wf = true ∧ (Lit.int .i64 x.To).wf = true ∧ (x.List.length ≤ 9223372036854775807 ∧ ∀ y ∈ x.List, Gd_Message y)
theorem Bd_of_Channel {x : GChannel} (h : Gd_Channel x) : Bd_Channel x := by
  obtain ⟨g0, g1, g2⟩ := h
  exact (fun y hy => Bd_of_Message (g2.2 y hy))
def cnt_Channel (x : GChannel) : Int := (((0 + 1) + 1) + cntS cnt_Message x.List)
def mk_Channel (k : Int) (x : GChannel) : GChannel := ⟨k, (k + 1), mkS mk_Message cnt_Message ((k + 1) + 1) x.List⟩
theorem cnt_Channel_nn (x : GChannel) : 0 ≤ cnt_Channel x := by
  have h2 := cntS_nn cnt_Message cnt_Message_nn x.List
  unfold cnt_Channel
  omega
theorem cnt_Channel_le (x : GChannel) : cnt_Channel x ≤ 20 + 20 * (szn_Channel x : Int) := by
  have h2 := cntS_bound cnt_Message szn_Message cnt_Message_le x.List
  unfold cnt_Channel szn_Channel
  omega
def cntv_Channel (x : GChannel) : Int := (0 + cntS cnt_Message x.List)
def mkv_Channel (k : Int) (x : GChannel) : GChannel := ⟨x.From, x.To, mkS mk_Message cnt_Message k x.List⟩
structure GInstr where
  Op : Int
  A : Int
  B : Int
  C : Int
  D : Int
  Name : ByteArray
def zInstr : GInstr := ⟨0, 0, 0, 0, 0, ⟨#[]⟩⟩
def szn_Instr (x : GInstr) : Nat := x.Name.size
def Bd_Instr (x : GInstr) : Prop := x.Name.size ≤ 9223372036854775807
def Gd_Instr (x : GInstr) : Prop := (Lit.int .i64 x.Op).wf = true ∧ (Lit.int .i64 x.A).wf = true ∧ (Lit.int .i64 x.B).wf = true ∧ (Lit.int .i64 x.C).wf = true ∧ (Lit.int .i64 x.D).wf = true ∧ x.Name.size ≤ 9223372036854775807
theorem Bd_of_Instr {x : GInstr} (h : Gd_Instr x) : Bd_Instr x := by
  obtain ⟨g0, g1, g2, g3, g4, g5⟩ := h
  exact g5
def cnt_Instr (_ : GInstr) : Int := ((((((0 + 1) + 1) + 1) + 1) + 1) + 1)
def mk_Instr (k : Int) (_ : GInstr) : GInstr := ⟨k, (k + 1), ((k + 1) + 1), (((k + 1) + 1) + 1), ((((k + 1) + 1) + 1) + 1), mtx ((((((k + 1) + 1) + 1) + 1) + 1))⟩
theorem cnt_Instr_nn (x : GInstr) : 0 ≤ cnt_Instr x := by
  unfold cnt_Instr
  omega
theorem cnt_Instr_le (x : GInstr) : cnt_Instr x ≤ 20 + 20 * (szn_Instr x : Int) := by
  unfold cnt_Instr szn_Instr
  omega
structure GMethod where
  Name : ByteArray
  Code : List GInstr
def zMethod : GMethod := ⟨⟨#[]⟩, []⟩
def szn_Method (x : GMethod) : Nat := x.Name.size + sznS szn_Instr x.Code
def Bd_Method (x : GMethod) : Prop := x.Name.size ≤ 9223372036854775807 ∧ (∀ y ∈ x.Code, Bd_Instr y)
def Gd_Method (x : GMethod) : Prop := x.Name.size ≤ 9223372036854775807 ∧ (x.Code.length ≤ 9223372036854775807 ∧ ∀ y ∈ x.Code, Gd_Instr y)
theorem Bd_of_Method {x : GMethod} (h : Gd_Method x) : Bd_Method x := by
  obtain ⟨g0, g1⟩ := h
  exact ⟨g0, (fun y hy => Bd_of_Instr (g1.2 y hy))⟩
def cnt_Method (x : GMethod) : Int := ((0 + 1) + cntS cnt_Instr x.Code)
def mk_Method (k : Int) (x : GMethod) : GMethod := ⟨mtx (k), mkS mk_Instr cnt_Instr (k + 1) x.Code⟩
theorem cnt_Method_nn (x : GMethod) : 0 ≤ cnt_Method x := by
  have h1 := cntS_nn cnt_Instr cnt_Instr_nn x.Code
  unfold cnt_Method
  omega
theorem cnt_Method_le (x : GMethod) : cnt_Method x ≤ 20 + 20 * (szn_Method x : Int) := by
  have h1 := cntS_bound cnt_Instr szn_Instr cnt_Instr_le x.Code
  unfold cnt_Method szn_Method
  omega
def cntv_Method (x : GMethod) : Int := (0 + cntS cnt_Instr x.Code)
def mkv_Method (k : Int) (x : GMethod) : GMethod := ⟨x.Name, mkS mk_Instr cnt_Instr k x.Code⟩
structure GScript where
  Name : ByteArray
  Methods : List GMethod
def zScript : GScript := ⟨⟨#[]⟩, []⟩
def szn_Script (x : GScript) : Nat := x.Name.size + sznS szn_Method x.Methods
def Bd_Script (x : GScript) : Prop := x.Name.size ≤ 9223372036854775807 ∧ (∀ y ∈ x.Methods, Bd_Method y)
def Gd_Script (x : GScript) : Prop := x.Name.size ≤ 9223372036854775807 ∧ (x.Methods.length ≤ 9223372036854775807 ∧ ∀ y ∈ x.Methods, Gd_Method y)
theorem Bd_of_Script {x : GScript} (h : Gd_Script x) : Bd_Script x := by
  obtain ⟨g0, g1⟩ := h
  exact ⟨g0, (fun y hy => Bd_of_Method (g1.2 y hy))⟩
def cnt_Script (x : GScript) : Int := ((0 + 1) + cntS cnt_Method x.Methods)
def mk_Script (k : Int) (x : GScript) : GScript := ⟨mtx (k), mkS mk_Method cnt_Method (k + 1) x.Methods⟩
theorem cnt_Script_nn (x : GScript) : 0 ≤ cnt_Script x := by
  have h1 := cntS_nn cnt_Method cnt_Method_nn x.Methods
  unfold cnt_Script
  omega
theorem cnt_Script_le (x : GScript) : cnt_Script x ≤ 20 + 20 * (szn_Script x : Int) := by
  have h1 := cntS_bound cnt_Method szn_Method cnt_Method_le x.Methods
  unfold cnt_Script szn_Script
  omega
def cntv_Script (x : GScript) : Int := (0 + cntS cnt_Method x.Methods)
def mkv_Script (k : Int) (x : GScript) : GScript := ⟨x.Name, mkS mk_Method cnt_Method k x.Methods⟩
end Go.Proofs.YtfnedoiplblldaaT
