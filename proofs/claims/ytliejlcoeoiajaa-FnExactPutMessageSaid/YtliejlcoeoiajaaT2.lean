/- Counts of a struct's own slices: not negative, and bounded by the size. No conditions. -/
import Derived.Test.YtliejlcoeoiajaaT
namespace Go.Proofs.YtliejlcoeoiajaaT
open Go.Proofs.YtliejlcoeoiajaaSep
theorem cntv_Message_nn (x : GMessage) : 0 ≤ cntv_Message x := by
  have h5 := cntS_nn cnt_Wire cnt_Wire_nn x.Args
  unfold cntv_Message
  omega
theorem cntv_Message_le (x : GMessage) : cntv_Message x ≤ 20 * (szn_Message x : Int) := by
  have h5 := cntS_bound cnt_Wire szn_Wire cnt_Wire_le x.Args
  unfold cntv_Message szn_Message
  omega
theorem cntv_Channel_nn (x : GChannel) : 0 ≤ cntv_Channel x := by
  have h2 := cntS_nn cnt_Message cnt_Message_nn x.List
  unfold cntv_Channel
  omega
theorem cntv_Channel_le (x : GChannel) : cntv_Channel x ≤ 20 * (szn_Channel x : Int) := by
  have h2 := cntS_bound cnt_Message szn_Message cnt_Message_le x.List
  unfold cntv_Channel szn_Channel
  omega
theorem cntv_Event_nn (x : GEvent) : 0 ≤ cntv_Event x := by
  have h5 := cntS_nn cnt_Value cnt_Value_nn x.Args
  unfold cntv_Event
  omega
theorem cntv_Event_le (x : GEvent) : cntv_Event x ≤ 20 * (szn_Event x : Int) := by
  have h5 := cntS_bound cnt_Value szn_Value cnt_Value_le x.Args
  unfold cntv_Event szn_Event
  omega
theorem cntv_Method_nn (x : GMethod) : 0 ≤ cntv_Method x := by
  have h1 := cntS_nn cnt_Instr cnt_Instr_nn x.Code
  unfold cntv_Method
  omega
theorem cntv_Method_le (x : GMethod) : cntv_Method x ≤ 20 * (szn_Method x : Int) := by
  have h1 := cntS_bound cnt_Instr szn_Instr cnt_Instr_le x.Code
  unfold cntv_Method szn_Method
  omega
theorem cntv_Script_nn (x : GScript) : 0 ≤ cntv_Script x := by
  have h1 := cntS_nn cnt_Method cnt_Method_nn x.Methods
  unfold cntv_Script
  omega
theorem cntv_Script_le (x : GScript) : cntv_Script x ≤ 20 * (szn_Script x : Int) := by
  have h1 := cntS_bound cnt_Method szn_Method cnt_Method_le x.Methods
  unfold cntv_Script szn_Script
  omega
end Go.Proofs.YtliejlcoeoiajaaT
