/- Answers of the evaluator, by the kernel. No conditions. -/
import Derived.Test.YtkjheebjpgmdhaaGreatDoorTM
import Derived.KernelRfl
set_option linter.unusedVariables false
set_option linter.unusedSimpArgs false
namespace Go.Proofs.YtkjheebjpgmdhaaGreatDoor
open Go.Ev
set_option maxRecDepth 1000000
theorem l61 : resQ (callG CC (T0 Q61) 5000 f_value_May a61 []) v61 = true := by kernel_rfl
theorem l62 : resQ (callG CC (T0 Q62) 5000 f_canon_Encode a62 []) v62 = true := by kernel_rfl
theorem l63 : resQ (callG CC (T0 Q63) 5000 f_targ_May a63 []) v63 = true := by kernel_rfl
theorem l64 : resQ (callG CC (T0 Q64) 5000 f_sign_Signed a64 []) v64 = true := by kernel_rfl
theorem l65 : resQ (callG CC (T0 Q65) 5000 f_mac_Of a65 []) v65 = true := by kernel_rfl
theorem l66 : resQ (callG CC (T0 Q66) 5000 f_value_May a66 []) v66 = true := by kernel_rfl
theorem l67 : resQ (callG CC (T0 Q67) 5000 f_canon_Encode a67 []) v67 = true := by kernel_rfl
end Go.Proofs.YtkjheebjpgmdhaaGreatDoor

