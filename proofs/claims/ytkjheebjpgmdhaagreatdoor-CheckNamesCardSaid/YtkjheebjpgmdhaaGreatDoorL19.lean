/- Answers of the evaluator, by the kernel. No conditions. -/
import Derived.Test.YtkjheebjpgmdhaaGreatDoorTM
import Derived.KernelRfl
set_option linter.unusedVariables false
set_option linter.unusedSimpArgs false
namespace Go.Proofs.YtkjheebjpgmdhaaGreatDoor
open Go.Ev
set_option maxRecDepth 1000000
theorem l69 : resQ (callG CC (T0 Q69) 5000 f_sign_Of a69 []) v69 = true := by kernel_rfl
theorem l70 : resQ (callG CC (T0 Q70) 5000 f_snap_Of a70 []) v70 = true := by kernel_rfl
theorem l71 : resQ (callG CC (T0 Q71) 5000 f_hex_Decode a71 []) v71 = true := by kernel_rfl
end Go.Proofs.YtkjheebjpgmdhaaGreatDoor

