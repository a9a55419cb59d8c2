/- Answers of the evaluator, by the kernel. No conditions. -/
import Derived.Test.YtgpjaembafkpoaaGreatDoorTM
import Derived.KernelRfl
set_option linter.unusedVariables false
set_option linter.unusedSimpArgs false
namespace Go.Proofs.YtgpjaembafkpoaaGreatDoor
open Go.Ev
set_option maxRecDepth 1000000
theorem l11 : resQ (callG CC (T0 Q11) 5000 f_value_May a11 []) v11 = true := by kernel_rfl
theorem l12 : resQ (callG CC (T0 Q12) 5000 f_canon_Encode a12 []) v12 = true := by kernel_rfl
theorem l13 : resQ (callG CC (T0 Q13) 5000 f_value_May a13 []) v13 = true := by kernel_rfl
theorem l14 : resQ (callG CC (T0 Q14) 5000 f_canon_Encode a14 []) v14 = true := by kernel_rfl
theorem l15 : resQ (callG CC (T0 Q15) 5000 f_mac_Of a15 []) v15 = true := by kernel_rfl
theorem l16 : resQ (callG CC (T0 Q16) 5000 f_value_May a16 []) v16 = true := by kernel_rfl
end Go.Proofs.YtgpjaembafkpoaaGreatDoor

