/- Answers of the evaluator, by the kernel. No conditions. -/
import Derived.Test.YtkjheebjpgmdhaaGreatDoorTM
import Derived.KernelRfl
set_option linter.unusedVariables false
set_option linter.unusedSimpArgs false
namespace Go.Proofs.YtkjheebjpgmdhaaGreatDoor
open Go.Ev
set_option maxRecDepth 1000000
theorem l49 : resQ (callG CC (T0 Q49) 5000 f_mac_Of a49 []) v49 = true := by kernel_rfl
theorem l50 : resQ (callG CC (T0 Q50) 5000 f_value_May a50 []) v50 = true := by kernel_rfl
theorem l51 : resQ (callG CC (T0 Q51) 5000 f_canon_Encode a51 []) v51 = true := by kernel_rfl
theorem l52 : resQ (callG CC (T0 Q52) 5000 f_legatelaw27_file a52 []) v52 = true := by kernel_rfl
end Go.Proofs.YtkjheebjpgmdhaaGreatDoor

