/- Counts of a struct's own slices: not negative, and bounded by the size. No conditions. -/
import Derived.Test.YtfnedoiplblldaaT
namespace Go.Proofs.YtfnedoiplblldaaT
open Go.Proofs.YtfnedoiplblldaaSep
theorem cntv_Sent_nn (x : GSent) : 0 ≤ cntv_Sent x := by
  have h2 := cntS_nn cnt_Value cnt_Value_nn x.Args
  unfold cntv_Sent
  omega
theorem cntv_Sent_le (x : GSent) : cntv_Sent x ≤ 20 * (szn_Sent x : Int) := by
  have h2 := cntS_bound cnt_Value szn_Value cnt_Value_le x.Args
  unfold cntv_Sent szn_Sent
  omega
theorem cntv_Entity_nn (x : GEntity) : 0 ≤ cntv_Entity x := by
  have h2 := cntS_nn cnt_Value cnt_Value_nn x.Slots
  have h6 := cntS_nn cnt_Sent cnt_Sent_nn x.Queue
  have h7 := cntS_nn cnt_Asker cnt_Asker_nn x.Askers
  unfold cntv_Entity
  omega
theorem cntv_Entity_le (x : GEntity) : cntv_Entity x ≤ 20 * (szn_Entity x : Int) := by
  have h2 := cntS_bound cnt_Value szn_Value cnt_Value_le x.Slots
  have h6 := cntS_bound cnt_Sent szn_Sent cnt_Sent_le x.Queue
  have h7 := cntS_bound cnt_Asker szn_Asker cnt_Asker_le x.Askers
  unfold cntv_Entity szn_Entity
  omega
theorem cntv_Link_nn (x : GLink) : 0 ≤ cntv_Link x := by
  have h2 := cntS_nn cnt_Export cnt_Export_nn x.Exports
  have h4 := cntS_nn cnt_Question cnt_Question_nn x.Questions
  have h6 := cntS_nn cnt_Question cnt_Question_nn x.Answers
  unfold cntv_Link
  omega
theorem cntv_Link_le (x : GLink) : cntv_Link x ≤ 20 * (szn_Link x : Int) := by
  have h2 := cntS_bound cnt_Export szn_Export cnt_Export_le x.Exports
  have h4 := cntS_bound cnt_Question szn_Question cnt_Question_le x.Questions
  have h6 := cntS_bound cnt_Question szn_Question cnt_Question_le x.Answers
  unfold cntv_Link szn_Link
  omega
theorem cntv_Message_nn (x : GMessage) : 0 ≤ cntv_Message x := by
  have h5 := cntS_nn cnt_Wire cnt_Wire_nn x.Args
  unfold cntv_Message
  omega
theorem cntv_Message_le (x : GMessage) : cntv_Message x ≤ 20 * (szn_Message x : Int) := by
  have h5 := cntS_bound cnt_Wire szn_Wire cnt_Wire_le x.Args
  unfold cntv_Message szn_Message
  omega
theorem cntv_Outgoing_nn (x : GOutgoing) : 0 ≤ cntv_Outgoing x := by
  have h6 := cntS_nn cnt_Wire cnt_Wire_nn x.Message.Args
  unfold cntv_Outgoing
  omega
theorem cntv_Outgoing_le (x : GOutgoing) : cntv_Outgoing x ≤ 20 * (szn_Outgoing x : Int) := by
  have h6 := cntS_bound cnt_Wire szn_Wire cnt_Wire_le x.Message.Args
  unfold cntv_Outgoing szn_Outgoing szn_Message
  omega
theorem cntv_Vat_nn (x : GVat) : 0 ≤ cntv_Vat x := by
  have h1 := cntS_nn cnt_Entity cnt_Entity_nn x.Entities
  have h2 := cntS_nn cnt_Sent cnt_Sent_nn x.Loop
  have h3 := cntS_nn cnt_Link cnt_Link_nn x.Links
  have h4 := cntS_nn cnt_Outgoing cnt_Outgoing_nn x.Out
  unfold cntv_Vat
  omega
theorem cntv_Vat_le (x : GVat) : cntv_Vat x ≤ 20 * (szn_Vat x : Int) := by
  have h1 := cntS_bound cnt_Entity szn_Entity cnt_Entity_le x.Entities
  have h2 := cntS_bound cnt_Sent szn_Sent cnt_Sent_le x.Loop
  have h3 := cntS_bound cnt_Link szn_Link cnt_Link_le x.Links
  have h4 := cntS_bound cnt_Outgoing szn_Outgoing cnt_Outgoing_le x.Out
  unfold cntv_Vat szn_Vat
  omega
theorem cntv_Channel_nn (x : GChannel) : 0 ≤ cntv_Channel x := by
  have h2 := cntS_nn cnt_Message cnt_Message_nn x.List
  unfold cntv_Channel
  omega
theorem cntv_Channel_le (x : GChannel) : cntv_Channel x ≤ 20 * (szn_Channel x : Int) := by
  have h2 := cntS_bound cnt_Message szn_Message cnt_Message_le x.List
  unfold cntv_Channel szn_Channel
  omega
theorem cntv_Method_nn (x : GMethod) : 0 ≤ cntv_Method x := by
  have h1 := cntS_nn cnt_Instr cnt_Instr_nn x.Code
  unfold cntv_Method
  omega
theorem cntv_Method_le (x : GMethod) : cntv_Method x ≤ 20 * (szn_Method x : Int) := by
  have h1 := cntS_bound cnt_Instr szn_Instr cnt_Instr_le x.Code
  unfold cntv_Method szn_Method
  omega
theorem cntv_Script_nn (x : GScript) : 0 ≤ cntv_Script x := by
  have h1 := cntS_nn cnt_Method cnt_Method_nn x.Methods
  unfold cntv_Script
  omega
theorem cntv_Script_le (x : GScript) : cntv_Script x ≤ 20 * (szn_Script x : Int) := by
  have h1 := cntS_bound cnt_Method szn_Method cnt_Method_le x.Methods
  unfold cntv_Script szn_Script
  omega
end Go.Proofs.YtfnedoiplblldaaT
