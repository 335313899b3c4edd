/- Structs opened and put together as resources. No conditions. -/
import Derived.Test.YtfnedoiplblldaaK
import Derived.Test.YtfnedoiplblldaaSym2
namespace Go.Proofs.YtfnedoiplblldaaT
open Go.RowKit Go.Proofs.YtfnedoiplblldaaSep Go.Proofs.YtfnedoiplblldaaK
theorem ki_Value_len {W : World} {x : GValue} {cs : List Value} (h : ki_Value.K W x cs) : cs.length = 2 := ki_Value.K_len h
theorem ki_Value_one {W : World} {x : GValue} {cs : List Value} (h : ki_Value.K W x cs) : ∀ u ∈ (List.toArray cs).toList, u.oneCell' = true := ki_Value.K_one h
theorem flat2_Value : Flat ki_Value := by
  unfold ki_Value
  repeat' first | apply flat_iso | apply flat_pair | apply flat_scalar
theorem ki_Tag_len {W : World} {x : GTag} {cs : List Value} (h : ki_Tag.K W x cs) : cs.length = 3 := ki_Tag.K_len h
theorem ki_Tag_one {W : World} {x : GTag} {cs : List Value} (h : ki_Tag.K W x cs) : ∀ u ∈ (List.toArray cs).toList, u.oneCell' = true := ki_Tag.K_one h
theorem flat2_Tag : Flat ki_Tag := by
  unfold ki_Tag
  repeat' first | apply flat_iso | apply flat_pair | apply flat_scalar
theorem ki_Sent_len {W : World} {x : GSent} {cs : List Value} (h : ki_Sent.K W x cs) : cs.length = 7 := ki_Sent.K_len h
theorem ki_Sent_one {W : World} {x : GSent} {cs : List Value} (h : ki_Sent.K W x cs) : ∀ u ∈ (List.toArray cs).toList, u.oneCell' = true := ki_Sent.K_one h
theorem ki_Sent_close {W : World} {F : Nat → Prop} {x : GSent} {v2 : Value} (h : Star [hR ki_Value 54 v2 x.Args] W F) : ki_Sent.M W F x [.int .i64 x.Target, .string x.Name, v2, .int .i64 x.Result, .int .i64 x.Tag.Vat, .int .i64 x.Tag.Entity, .int .i64 x.Tag.Seq] := by
  obtain ⟨Fs, h1, h2, h3⟩ := h
  exact ki_Sent_mk W F x (h3 0 _ rfl) (h1 0)
theorem ki_Sent_open {W : World} {F : Nat → Prop} {x : GSent} {cs : List Value} (h : ki_Sent.M W F x cs) : ∃ (A2 : Option Addr) (c2 : Nat), cs = [.int .i64 x.Target, .string x.Name, .slice A2 x.Args.length c2, .int .i64 x.Result, .int .i64 x.Tag.Vat, .int .i64 x.Tag.Entity, .int .i64 x.Tag.Seq] ∧ Star [hR ki_Value 54 (.slice A2 x.Args.length c2) x.Args] W F := by
  obtain ⟨v2, P2, rfl, r2, i2⟩ := ki_Sent_M h
  obtain ⟨A2, c2, rfl⟩ := R_slice r2
  exact ⟨A2, c2, rfl, (Star.cons P2 (fun b => False) r2 Star.nil i2 (fun b h => h.elim) (fun b p h => h.elim))⟩
theorem ki_Asker_len {W : World} {x : GAsker} {cs : List Value} (h : ki_Asker.K W x cs) : cs.length = 2 := ki_Asker.K_len h
theorem ki_Asker_one {W : World} {x : GAsker} {cs : List Value} (h : ki_Asker.K W x cs) : ∀ u ∈ (List.toArray cs).toList, u.oneCell' = true := ki_Asker.K_one h
theorem flat2_Asker : Flat ki_Asker := by
  unfold ki_Asker
  repeat' first | apply flat_iso | apply flat_pair | apply flat_scalar
theorem ki_Entity_len {W : World} {x : GEntity} {cs : List Value} (h : ki_Entity.K W x cs) : cs.length = 12 := ki_Entity.K_len h
theorem ki_Entity_one {W : World} {x : GEntity} {cs : List Value} (h : ki_Entity.K W x cs) : ∀ u ∈ (List.toArray cs).toList, u.oneCell' = true := ki_Entity.K_one h
theorem ki_Entity_close {W : World} {F : Nat → Prop} {x : GEntity} {v2 : Value} {v6 : Value} {v7 : Value} (h : Star [hR ki_Value 54 v2 x.Slots, hR ki_Sent 177 v6 x.Queue, hR ki_Asker 205 v7 x.Askers] W F) : ki_Entity.M W F x [.int .i64 x.Kind, .int .i64 x.Script, v2, .int .i64 x.State, .int .i64 x.Value.Kind, .int .i64 x.Value.N, v6, v7, .int .i64 x.Peer, .int .i64 x.Pos, .int .i64 x.Count, .int .i64 x.Sent] := by
  obtain ⟨Fs, h1, h2, h3⟩ := h
  exact ki_Entity_mk W F x (h3 0 _ rfl) (h3 1 _ rfl) (h3 2 _ rfl) (h1 0) (h1 1) (h1 2) (fun k p q => absurd (h2 0 1 k p q) (by decide)) (fun k p q => absurd (h2 0 2 k p q) (by decide)) (fun k p q => absurd (h2 1 2 k p q) (by decide))
theorem ki_Entity_open {W : World} {F : Nat → Prop} {x : GEntity} {cs : List Value} (h : ki_Entity.M W F x cs) : ∃ (A2 : Option Addr) (c2 : Nat) (A6 : Option Addr) (c6 : Nat) (A7 : Option Addr) (c7 : Nat), cs = [.int .i64 x.Kind, .int .i64 x.Script, .slice A2 x.Slots.length c2, .int .i64 x.State, .int .i64 x.Value.Kind, .int .i64 x.Value.N, .slice A6 x.Queue.length c6, .slice A7 x.Askers.length c7, .int .i64 x.Peer, .int .i64 x.Pos, .int .i64 x.Count, .int .i64 x.Sent] ∧ Star [hR ki_Value 54 (.slice A2 x.Slots.length c2) x.Slots, hR ki_Sent 177 (.slice A6 x.Queue.length c6) x.Queue, hR ki_Asker 205 (.slice A7 x.Askers.length c7) x.Askers] W F := by
  obtain ⟨v2, P2, v6, P6, v7, P7, rfl, r2, r6, r7, i2, i6, i7, d2_6, d2_7, d6_7⟩ := ki_Entity_M h
  obtain ⟨A2, c2, rfl⟩ := R_slice r2
  obtain ⟨A6, c6, rfl⟩ := R_slice r6
  obtain ⟨A7, c7, rfl⟩ := R_slice r7
  exact ⟨A2, c2, A6, c6, A7, c7, rfl, (Star.cons P2 (fun b => P6 b ∨ P7 b) r2 (Star.cons P6 (fun b => P7 b) r6 (Star.cons P7 (fun b => False) r7 Star.nil (fun b h => h) (fun b h => h.elim) (fun b p h => h.elim)) (fun b h => .inl h) (fun b h => .inr h) (fun b p h => (by exact d6_7 b p h))) i2 (fun b h => (by rcases h with h | h; exact i6 b h; exact i7 b h)) (fun b p h => (by rcases h with h | h; exact d2_6 b p h; exact d2_7 b p h)))⟩
theorem ki_Export_len {W : World} {x : GExport} {cs : List Value} (h : ki_Export.K W x cs) : cs.length = 3 := ki_Export.K_len h
theorem ki_Export_one {W : World} {x : GExport} {cs : List Value} (h : ki_Export.K W x cs) : ∀ u ∈ (List.toArray cs).toList, u.oneCell' = true := ki_Export.K_one h
theorem flat2_Export : Flat ki_Export := by
  unfold ki_Export
  repeat' first | apply flat_iso | apply flat_pair | apply flat_scalar
theorem ki_Question_len {W : World} {x : GQuestion} {cs : List Value} (h : ki_Question.K W x cs) : cs.length = 2 := ki_Question.K_len h
theorem ki_Question_one {W : World} {x : GQuestion} {cs : List Value} (h : ki_Question.K W x cs) : ∀ u ∈ (List.toArray cs).toList, u.oneCell' = true := ki_Question.K_one h
theorem flat2_Question : Flat ki_Question := by
  unfold ki_Question
  repeat' first | apply flat_iso | apply flat_pair | apply flat_scalar
theorem ki_Link_len {W : World} {x : GLink} {cs : List Value} (h : ki_Link.K W x cs) : cs.length = 7 := ki_Link.K_len h
theorem ki_Link_one {W : World} {x : GLink} {cs : List Value} (h : ki_Link.K W x cs) : ∀ u ∈ (List.toArray cs).toList, u.oneCell' = true := ki_Link.K_one h
theorem ki_Link_close {W : World} {F : Nat → Prop} {x : GLink} {v2 : Value} {v4 : Value} {v6 : Value} (h : Star [hR ki_Export 172 v2 x.Exports, hR ki_Question 230 v4 x.Questions, hR ki_Question 230 v6 x.Answers] W F) : ki_Link.M W F x [.int .i64 x.Peer, .bool x.Up, v2, .int .i64 x.Next, v4, .int .i64 x.Asked, v6] := by
  obtain ⟨Fs, h1, h2, h3⟩ := h
  exact ki_Link_mk W F x (h3 0 _ rfl) (h3 1 _ rfl) (h3 2 _ rfl) (h1 0) (h1 1) (h1 2) (fun k p q => absurd (h2 0 1 k p q) (by decide)) (fun k p q => absurd (h2 0 2 k p q) (by decide)) (fun k p q => absurd (h2 1 2 k p q) (by decide))
theorem ki_Link_open {W : World} {F : Nat → Prop} {x : GLink} {cs : List Value} (h : ki_Link.M W F x cs) : ∃ (A2 : Option Addr) (c2 : Nat) (A4 : Option Addr) (c4 : Nat) (A6 : Option Addr) (c6 : Nat), cs = [.int .i64 x.Peer, .bool x.Up, .slice A2 x.Exports.length c2, .int .i64 x.Next, .slice A4 x.Questions.length c4, .int .i64 x.Asked, .slice A6 x.Answers.length c6] ∧ Star [hR ki_Export 172 (.slice A2 x.Exports.length c2) x.Exports, hR ki_Question 230 (.slice A4 x.Questions.length c4) x.Questions, hR ki_Question 230 (.slice A6 x.Answers.length c6) x.Answers] W F := by
  obtain ⟨v2, P2, v4, P4, v6, P6, rfl, r2, r4, r6, i2, i4, i6, d2_4, d2_6, d4_6⟩ := ki_Link_M h
  obtain ⟨A2, c2, rfl⟩ := R_slice r2
  obtain ⟨A4, c4, rfl⟩ := R_slice r4
  obtain ⟨A6, c6, rfl⟩ := R_slice r6
  exact ⟨A2, c2, A4, c4, A6, c6, rfl, (Star.cons P2 (fun b => P4 b ∨ P6 b) r2 (Star.cons P4 (fun b => P6 b) r4 (Star.cons P6 (fun b => False) r6 Star.nil (fun b h => h) (fun b h => h.elim) (fun b p h => h.elim)) (fun b h => .inl h) (fun b h => .inr h) (fun b p h => (by exact d4_6 b p h))) i2 (fun b h => (by rcases h with h | h; exact i4 b h; exact i6 b h)) (fun b p h => (by rcases h with h | h; exact d2_4 b p h; exact d2_6 b p h)))⟩
theorem ki_Wire_len {W : World} {x : GWire} {cs : List Value} (h : ki_Wire.K W x cs) : cs.length = 2 := ki_Wire.K_len h
theorem ki_Wire_one {W : World} {x : GWire} {cs : List Value} (h : ki_Wire.K W x cs) : ∀ u ∈ (List.toArray cs).toList, u.oneCell' = true := ki_Wire.K_one h
theorem flat2_Wire : Flat ki_Wire := by
  unfold ki_Wire
  repeat' first | apply flat_iso | apply flat_pair | apply flat_scalar
theorem ki_Message_len {W : World} {x : GMessage} {cs : List Value} (h : ki_Message.K W x cs) : cs.length = 12 := ki_Message.K_len h
theorem ki_Message_one {W : World} {x : GMessage} {cs : List Value} (h : ki_Message.K W x cs) : ∀ u ∈ (List.toArray cs).toList, u.oneCell' = true := ki_Message.K_one h
theorem ki_Message_close {W : World} {F : Nat → Prop} {x : GMessage} {v5 : Value} (h : Star [hR ki_Wire 66 v5 x.Args] W F) : ki_Message.M W F x [.int .i64 x.Kind, .int .i64 x.Pos, .int .i64 x.Answer, .int .i64 x.Question, .string x.Name, v5, .int .i64 x.Value.Kind, .int .i64 x.Value.N, .int .i64 x.Count, .int .i64 x.Tag.Vat, .int .i64 x.Tag.Entity, .int .i64 x.Tag.Seq] := by
  obtain ⟨Fs, h1, h2, h3⟩ := h
  exact ki_Message_mk W F x (h3 0 _ rfl) (h1 0)
theorem ki_Message_open {W : World} {F : Nat → Prop} {x : GMessage} {cs : List Value} (h : ki_Message.M W F x cs) : ∃ (A5 : Option Addr) (c5 : Nat), cs = [.int .i64 x.Kind, .int .i64 x.Pos, .int .i64 x.Answer, .int .i64 x.Question, .string x.Name, .slice A5 x.Args.length c5, .int .i64 x.Value.Kind, .int .i64 x.Value.N, .int .i64 x.Count, .int .i64 x.Tag.Vat, .int .i64 x.Tag.Entity, .int .i64 x.Tag.Seq] ∧ Star [hR ki_Wire 66 (.slice A5 x.Args.length c5) x.Args] W F := by
  obtain ⟨v5, P5, rfl, r5, i5⟩ := ki_Message_M h
  obtain ⟨A5, c5, rfl⟩ := R_slice r5
  exact ⟨A5, c5, rfl, (Star.cons P5 (fun b => False) r5 Star.nil i5 (fun b h => h.elim) (fun b p h => h.elim))⟩
theorem ki_Outgoing_len {W : World} {x : GOutgoing} {cs : List Value} (h : ki_Outgoing.K W x cs) : cs.length = 13 := ki_Outgoing.K_len h
theorem ki_Outgoing_one {W : World} {x : GOutgoing} {cs : List Value} (h : ki_Outgoing.K W x cs) : ∀ u ∈ (List.toArray cs).toList, u.oneCell' = true := ki_Outgoing.K_one h
theorem ki_Outgoing_close {W : World} {F : Nat → Prop} {x : GOutgoing} {v6 : Value} (h : Star [hR ki_Wire 66 v6 x.Message.Args] W F) : ki_Outgoing.M W F x [.int .i64 x.To, .int .i64 x.Message.Kind, .int .i64 x.Message.Pos, .int .i64 x.Message.Answer, .int .i64 x.Message.Question, .string x.Message.Name, v6, .int .i64 x.Message.Value.Kind, .int .i64 x.Message.Value.N, .int .i64 x.Message.Count, .int .i64 x.Message.Tag.Vat, .int .i64 x.Message.Tag.Entity, .int .i64 x.Message.Tag.Seq] := by
  obtain ⟨Fs, h1, h2, h3⟩ := h
  exact ki_Outgoing_mk W F x (h3 0 _ rfl) (h1 0)
theorem ki_Outgoing_open {W : World} {F : Nat → Prop} {x : GOutgoing} {cs : List Value} (h : ki_Outgoing.M W F x cs) : ∃ (A6 : Option Addr) (c6 : Nat), cs = [.int .i64 x.To, .int .i64 x.Message.Kind, .int .i64 x.Message.Pos, .int .i64 x.Message.Answer, .int .i64 x.Message.Question, .string x.Message.Name, .slice A6 x.Message.Args.length c6, .int .i64 x.Message.Value.Kind, .int .i64 x.Message.Value.N, .int .i64 x.Message.Count, .int .i64 x.Message.Tag.Vat, .int .i64 x.Message.Tag.Entity, .int .i64 x.Message.Tag.Seq] ∧ Star [hR ki_Wire 66 (.slice A6 x.Message.Args.length c6) x.Message.Args] W F := by
  obtain ⟨v6, P6, rfl, r6, i6⟩ := ki_Outgoing_M h
  obtain ⟨A6, c6, rfl⟩ := R_slice r6
  exact ⟨A6, c6, rfl, (Star.cons P6 (fun b => False) r6 Star.nil i6 (fun b h => h.elim) (fun b p h => h.elim))⟩
theorem ki_Vat_len {W : World} {x : GVat} {cs : List Value} (h : ki_Vat.K W x cs) : cs.length = 5 := ki_Vat.K_len h
theorem ki_Vat_one {W : World} {x : GVat} {cs : List Value} (h : ki_Vat.K W x cs) : ∀ u ∈ (List.toArray cs).toList, u.oneCell' = true := ki_Vat.K_one h
theorem ki_Vat_close {W : World} {F : Nat → Prop} {x : GVat} {v1 : Value} {v2 : Value} {v3 : Value} {v4 : Value} (h : Star [hR ki_Entity 57 v1 x.Entities, hR ki_Sent 177 v2 x.Loop, hR ki_Link 97 v3 x.Links, hR ki_Outgoing 181 v4 x.Out] W F) : ki_Vat.M W F x [.int .i64 x.Id, v1, v2, v3, v4] := by
  obtain ⟨Fs, h1, h2, h3⟩ := h
  exact ki_Vat_mk W F x (h3 0 _ rfl) (h3 1 _ rfl) (h3 2 _ rfl) (h3 3 _ rfl) (h1 0) (h1 1) (h1 2) (h1 3) (fun k p q => absurd (h2 0 1 k p q) (by decide)) (fun k p q => absurd (h2 0 2 k p q) (by decide)) (fun k p q => absurd (h2 0 3 k p q) (by decide)) (fun k p q => absurd (h2 1 2 k p q) (by decide)) (fun k p q => absurd (h2 1 3 k p q) (by decide)) (fun k p q => absurd (h2 2 3 k p q) (by decide))
theorem ki_Vat_open {W : World} {F : Nat → Prop} {x : GVat} {cs : List Value} (h : ki_Vat.M W F x cs) : ∃ (A1 : Option Addr) (c1 : Nat) (A2 : Option Addr) (c2 : Nat) (A3 : Option Addr) (c3 : Nat) (A4 : Option Addr) (c4 : Nat), cs = [.int .i64 x.Id, .slice A1 x.Entities.length c1, .slice A2 x.Loop.length c2, .slice A3 x.Links.length c3, .slice A4 x.Out.length c4] ∧ Star [hR ki_Entity 57 (.slice A1 x.Entities.length c1) x.Entities, hR ki_Sent 177 (.slice A2 x.Loop.length c2) x.Loop, hR ki_Link 97 (.slice A3 x.Links.length c3) x.Links, hR ki_Outgoing 181 (.slice A4 x.Out.length c4) x.Out] W F := by
  obtain ⟨v1, P1, v2, P2, v3, P3, v4, P4, rfl, r1, r2, r3, r4, i1, i2, i3, i4, d1_2, d1_3, d1_4, d2_3, d2_4, d3_4⟩ := ki_Vat_M h
  obtain ⟨A1, c1, rfl⟩ := R_slice r1
  obtain ⟨A2, c2, rfl⟩ := R_slice r2
  obtain ⟨A3, c3, rfl⟩ := R_slice r3
  obtain ⟨A4, c4, rfl⟩ := R_slice r4
  exact ⟨A1, c1, A2, c2, A3, c3, A4, c4, rfl, (Star.cons P1 (fun b => P2 b ∨ P3 b ∨ P4 b) r1 (Star.cons P2 (fun b => P3 b ∨ P4 b) r2 (Star.cons P3 (fun b => P4 b) r3 (Star.cons P4 (fun b => False) r4 Star.nil (fun b h => h) (fun b h => h.elim) (fun b p h => h.elim)) (fun b h => .inl h) (fun b h => .inr h) (fun b p h => (by exact d3_4 b p h))) (fun b h => .inl h) (fun b h => .inr h) (fun b p h => (by rcases h with h | h; exact d2_3 b p h; exact d2_4 b p h))) i1 (fun b h => (by rcases h with h | h | h; exact i2 b h; exact i3 b h; exact i4 b h)) (fun b p h => (by rcases h with h | h | h; exact d1_2 b p h; exact d1_3 b p h; exact d1_4 b p h)))⟩
theorem ki_Channel_len {W : World} {x : GChannel} {cs : List Value} (h : ki_Channel.K W x cs) : cs.length = 3 := ki_Channel.K_len h
theorem ki_Channel_one {W : World} {x : GChannel} {cs : List Value} (h : ki_Channel.K W x cs) : ∀ u ∈ (List.toArray cs).toList, u.oneCell' = true := ki_Channel.K_one h
theorem ki_Channel_close {W : World} {F : Nat → Prop} {x : GChannel} {v2 : Value} (h : Star [hR ki_Message 70 v2 x.List] W F) : ki_Channel.M W F x [.int .i64 x.From, .int .i64 x.To, v2] := by
  obtain ⟨Fs, h1, h2, h3⟩ := h
  exact ki_Channel_mk W F x (h3 0 _ rfl) (h1 0)
theorem ki_Channel_open {W : World} {F : Nat → Prop} {x : GChannel} {cs : List Value} (h : ki_Channel.M W F x cs) : ∃ (A2 : Option Addr) (c2 : Nat), cs = [.int .i64 x.From, .int .i64 x.To, .slice A2 x.List.length c2] ∧ Star [hR ki_Message 70 (.slice A2 x.List.length c2) x.List] W F := by
  obtain ⟨v2, P2, rfl, r2, i2⟩ := ki_Channel_M h
  obtain ⟨A2, c2, rfl⟩ := R_slice r2
  exact ⟨A2, c2, rfl, (Star.cons P2 (fun b => False) r2 Star.nil i2 (fun b h => h.elim) (fun b p h => h.elim))⟩
theorem ki_Instr_len {W : World} {x : GInstr} {cs : List Value} (h : ki_Instr.K W x cs) : cs.length = 6 := ki_Instr.K_len h
theorem ki_Instr_one {W : World} {x : GInstr} {cs : List Value} (h : ki_Instr.K W x cs) : ∀ u ∈ (List.toArray cs).toList, u.oneCell' = true := ki_Instr.K_one h
theorem flat2_Instr : Flat ki_Instr := by
  unfold ki_Instr
  repeat' first | apply flat_iso | apply flat_pair | apply flat_scalar
theorem ki_Method_len {W : World} {x : GMethod} {cs : List Value} (h : ki_Method.K W x cs) : cs.length = 2 := ki_Method.K_len h
theorem ki_Method_one {W : World} {x : GMethod} {cs : List Value} (h : ki_Method.K W x cs) : ∀ u ∈ (List.toArray cs).toList, u.oneCell' = true := ki_Method.K_one h
theorem ki_Method_close {W : World} {F : Nat → Prop} {x : GMethod} {v1 : Value} (h : Star [hR ki_Instr 221 v1 x.Code] W F) : ki_Method.M W F x [.string x.Name, v1] := by
  obtain ⟨Fs, h1, h2, h3⟩ := h
  exact ki_Method_mk W F x (h3 0 _ rfl) (h1 0)
theorem ki_Method_open {W : World} {F : Nat → Prop} {x : GMethod} {cs : List Value} (h : ki_Method.M W F x cs) : ∃ (A1 : Option Addr) (c1 : Nat), cs = [.string x.Name, .slice A1 x.Code.length c1] ∧ Star [hR ki_Instr 221 (.slice A1 x.Code.length c1) x.Code] W F := by
  obtain ⟨v1, P1, rfl, r1, i1⟩ := ki_Method_M h
  obtain ⟨A1, c1, rfl⟩ := R_slice r1
  exact ⟨A1, c1, rfl, (Star.cons P1 (fun b => False) r1 Star.nil i1 (fun b h => h.elim) (fun b p h => h.elim))⟩
theorem ki_Script_len {W : World} {x : GScript} {cs : List Value} (h : ki_Script.K W x cs) : cs.length = 2 := ki_Script.K_len h
theorem ki_Script_one {W : World} {x : GScript} {cs : List Value} (h : ki_Script.K W x cs) : ∀ u ∈ (List.toArray cs).toList, u.oneCell' = true := ki_Script.K_one h
theorem ki_Script_close {W : World} {F : Nat → Prop} {x : GScript} {v1 : Value} (h : Star [hR ki_Method 83 v1 x.Methods] W F) : ki_Script.M W F x [.string x.Name, v1] := by
  obtain ⟨Fs, h1, h2, h3⟩ := h
  exact ki_Script_mk W F x (h3 0 _ rfl) (h1 0)
theorem ki_Script_open {W : World} {F : Nat → Prop} {x : GScript} {cs : List Value} (h : ki_Script.M W F x cs) : ∃ (A1 : Option Addr) (c1 : Nat), cs = [.string x.Name, .slice A1 x.Methods.length c1] ∧ Star [hR ki_Method 83 (.slice A1 x.Methods.length c1) x.Methods] W F := by
  obtain ⟨v1, P1, rfl, r1, i1⟩ := ki_Script_M h
  obtain ⟨A1, c1, rfl⟩ := R_slice r1
  exact ⟨A1, c1, rfl, (Star.cons P1 (fun b => False) r1 Star.nil i1 (fun b h => h.elim) (fun b p h => h.elim))⟩
end Go.Proofs.YtfnedoiplblldaaT
