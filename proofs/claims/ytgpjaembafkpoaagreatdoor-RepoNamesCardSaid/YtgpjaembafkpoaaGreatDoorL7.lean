/- Answers of the evaluator, by the kernel. No conditions. -/
import Derived.Test.YtgpjaembafkpoaaGreatDoorTM
import Derived.KernelRfl
set_option linter.unusedVariables false
set_option linter.unusedSimpArgs false
namespace Go.Proofs.YtgpjaembafkpoaaGreatDoor
open Go.Ev
set_option maxRecDepth 1000000
theorem l34 : resQ (callG CC (T0 Q34) 5000 f_value_Copy a34 []) v34 = true := by kernel_rfl
theorem l35 : resQ (callG CC (T0 Q35) 5000 f_sign_Of a35 []) v35 = true := by kernel_rfl
theorem l36 : resQ (callG CC (T0 Q36) 5000 f_snap_Of a36 []) v36 = true := by kernel_rfl
theorem l37 : resQ (callG CC (T0 Q37) 5000 f_hex_Decode a37 []) v37 = true := by kernel_rfl
end Go.Proofs.YtgpjaembafkpoaaGreatDoor

