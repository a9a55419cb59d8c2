/- Answers of the evaluator, by the kernel. No conditions. -/
import Derived.Test.YtkjheebjpgmdhaaGreatDoorTM
import Derived.KernelRfl
set_option linter.unusedVariables false
set_option linter.unusedSimpArgs false
namespace Go.Proofs.YtkjheebjpgmdhaaGreatDoor
open Go.Ev
set_option maxRecDepth 1000000
theorem l54 : resQ (callG CC (T0 Q54) 5000 f_sign_Of a54 []) v54 = true := by kernel_rfl
theorem l55 : resQ (callG CC (T0 Q55) 5000 f_canon_Encode a55 []) v55 = true := by kernel_rfl
theorem l56 : resQ (callG CC (T0 Q56) 5000 f_mac_Of a56 []) v56 = true := by kernel_rfl
theorem l57 : resQ (callG CC (T0 Q57) 5000 f_value_May a57 []) v57 = true := by kernel_rfl
theorem l58 : resQ (callG CC (T0 Q58) 5000 f_canon_Encode a58 []) v58 = true := by kernel_rfl
theorem l59 : resQ (callG CC (T0 Q59) 5000 f_legatelaw27_file a59 []) v59 = true := by kernel_rfl
theorem l60 : resQ (callG CC (T0 Q60) 5000 f_mac_Of a60 []) v60 = true := by kernel_rfl
end Go.Proofs.YtkjheebjpgmdhaaGreatDoor

