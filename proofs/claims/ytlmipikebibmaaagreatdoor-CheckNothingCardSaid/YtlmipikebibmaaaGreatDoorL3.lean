/- Answers of the evaluator, by the kernel. No conditions. -/
import Derived.Test.YtlmipikebibmaaaGreatDoorTM
import Derived.KernelRfl
set_option linter.unusedVariables false
set_option linter.unusedSimpArgs false
namespace Go.Proofs.YtlmipikebibmaaaGreatDoor
open Go.Ev
set_option maxRecDepth 1000000
theorem l10 : resQ (callG CC (T0 Q10) 5000 f_value_Copy a10 []) v10 = true := by kernel_rfl
theorem l11 : resQ (callG CC (T0 Q11) 5000 f_sign_Of a11 []) v11 = true := by kernel_rfl
theorem l12 : resQ (callG CC (T0 Q12) 5000 f_targ_Of a12 []) v12 = true := by kernel_rfl
theorem l13 : resQ (callG CC (T0 Q13) 5000 f_hex_Decode a13 []) v13 = true := by kernel_rfl
theorem l14 : resQ (callG CC (T0 Q14) 5000 f_key_ID a14 []) v14 = true := by kernel_rfl
theorem l15 : resQ (callG CC (T0 Q15) 5000 f_key_Keys a15 []) v15 = true := by kernel_rfl
end Go.Proofs.YtlmipikebibmaaaGreatDoor

