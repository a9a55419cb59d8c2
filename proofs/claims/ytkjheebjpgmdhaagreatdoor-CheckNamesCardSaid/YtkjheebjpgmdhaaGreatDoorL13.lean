/- Answers of the evaluator, by the kernel. No conditions. -/
import Derived.Test.YtkjheebjpgmdhaaGreatDoorTM
import Derived.KernelRfl
set_option linter.unusedVariables false
set_option linter.unusedSimpArgs false
namespace Go.Proofs.YtkjheebjpgmdhaaGreatDoor
open Go.Ev
set_option maxRecDepth 1000000
theorem l46 : resQ (callG CC (T0 Q46) 5000 f_legatelaw27_awake a46 []) v46 = true := by kernel_rfl
theorem l47 : resQ (callG CC (T0 Q47) 5000 f_sha_Sum a47 []) v47 = true := by kernel_rfl
theorem l48 : resQ (callG CC (T0 Q48) 5000 f_canon_Encode a48 []) v48 = true := by kernel_rfl
end Go.Proofs.YtkjheebjpgmdhaaGreatDoor

