/- Answers of the evaluator, by the kernel. No conditions. -/
import Derived.Test.YtgpjaembafkpoaaGreatDoorTM
import Derived.KernelRfl
set_option linter.unusedVariables false
set_option linter.unusedSimpArgs false
namespace Go.Proofs.YtgpjaembafkpoaaGreatDoor
open Go.Ev
set_option maxRecDepth 1000000
theorem l25 : resQ (callG CC (T0 Q25) 5000 f_value_endless a25 []) v25 = true := by kernel_rfl
theorem l26 : resQ (callG CC (T0 Q26) 5000 f_value_Copy a26 []) v26 = true := by kernel_rfl
theorem l27 : resQ (callG CC (T0 Q27) 5000 f_sign_Of a27 []) v27 = true := by kernel_rfl
theorem l28 : resQ (callG CC (T0 Q28) 5000 f_key_Keys a28 []) v28 = true := by kernel_rfl
theorem l29 : resQ (callG CC (T0 Q29) 5000 f_auth_Of a29 []) v29 = true := by kernel_rfl
theorem l30 : resQ (callG CC (T0 Q30) 5000 f_root_authsOf a30 []) v30 = true := by kernel_rfl
theorem l31 : resQ (callG CC (T0 Q31) 5000 f_root_Of a31 []) v31 = true := by kernel_rfl
theorem l32 : resQ (callG CC (T0 Q32) 5000 f_hex_Decode a32 []) v32 = true := by kernel_rfl
end Go.Proofs.YtgpjaembafkpoaaGreatDoor

