/- Answers of the evaluator, by the kernel. No conditions. -/
import Derived.Test.YtgpjaembafkpoaaGreatDoorTM
import Derived.KernelRfl
set_option linter.unusedVariables false
set_option linter.unusedSimpArgs false
namespace Go.Proofs.YtgpjaembafkpoaaGreatDoor
open Go.Ev
set_option maxRecDepth 1000000
theorem l7 : resQ (callG CC (T0 Q7) 5000 f_value_May a7 []) v7 = true := by kernel_rfl
theorem l8 : resQ (callG CC (T0 Q8) 5000 f_value_May a8 []) v8 = true := by kernel_rfl
theorem l9 : resQ (callG CC (T0 Q9) 5000 f_canon_Encode a9 []) v9 = true := by kernel_rfl
theorem l10 : resQ (callG CC (T0 Q10) 5000 f_mac_Of a10 []) v10 = true := by kernel_rfl
end Go.Proofs.YtgpjaembafkpoaaGreatDoor

