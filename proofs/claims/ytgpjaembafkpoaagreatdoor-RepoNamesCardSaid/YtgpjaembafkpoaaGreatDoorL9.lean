/- Answers of the evaluator, by the kernel. No conditions. -/
import Derived.Test.YtgpjaembafkpoaaGreatDoorTM
import Derived.KernelRfl
set_option linter.unusedVariables false
set_option linter.unusedSimpArgs false
namespace Go.Proofs.YtgpjaembafkpoaaGreatDoor
open Go.Ev
set_option maxRecDepth 1000000
theorem l39 : resQ (callG CC (T0 Q39) 5000 f_sign_Of a39 []) v39 = true := by kernel_rfl
theorem l40 : resQ (callG CC (T0 Q40) 5000 f_targ_Of a40 []) v40 = true := by kernel_rfl
theorem l41 : resQ (callG CC (T0 Q41) 5000 f_hex_Decode a41 []) v41 = true := by kernel_rfl
theorem l42 : resQ (callG CC (T0 Q42) 5000 f_legatelaw28_awake a42 []) v42 = true := by kernel_rfl
end Go.Proofs.YtgpjaembafkpoaaGreatDoor

