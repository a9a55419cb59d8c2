/- Answers of the evaluator, by the kernel. No conditions. -/
import Derived.Test.YtkjheebjpgmdhaaGreatDoorTM
import Derived.KernelRfl
set_option linter.unusedVariables false
set_option linter.unusedSimpArgs false
namespace Go.Proofs.YtkjheebjpgmdhaaGreatDoor
open Go.Ev
set_option maxRecDepth 1000000
theorem l73 : resQ (callG CC (T0 Q73) 5000 f_sign_Of a73 []) v73 = true := by kernel_rfl
end Go.Proofs.YtkjheebjpgmdhaaGreatDoor

