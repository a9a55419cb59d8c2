/- Answers of the evaluator, by the kernel. No conditions. -/
import Derived.Test.YtkjheebjpgmdhaaGreatDoorTM
import Derived.KernelRfl
set_option linter.unusedVariables false
set_option linter.unusedSimpArgs false
namespace Go.Proofs.YtkjheebjpgmdhaaGreatDoor
open Go.Ev
set_option maxRecDepth 1000000
theorem l75 : resQ (callG CC (T0 Q75) 5000 f_sign_Of a75 []) v75 = true := by kernel_rfl
theorem l76 : resQ (callG CC (T0 Q76) 5000 f_root_Of a76 []) v76 = true := by kernel_rfl
end Go.Proofs.YtkjheebjpgmdhaaGreatDoor

