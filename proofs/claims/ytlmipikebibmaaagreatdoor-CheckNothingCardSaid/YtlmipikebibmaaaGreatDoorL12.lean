/- Answers of the evaluator, by the kernel. No conditions. -/
import Derived.Test.YtlmipikebibmaaaGreatDoorTM
import Derived.KernelRfl
set_option linter.unusedVariables false
set_option linter.unusedSimpArgs false
namespace Go.Proofs.YtlmipikebibmaaaGreatDoor
open Go.Ev
set_option maxRecDepth 1000000
theorem l43 : resQ (callG CC (T0 Q43) 5000 f_sign_Of a43 []) v43 = true := by kernel_rfl
theorem l44 : resQ (callG CC (T0 Q44) 5000 f_snap_Of a44 []) v44 = true := by kernel_rfl
theorem l45 : resQ (callG CC (T0 Q45) 5000 f_hex_Decode a45 []) v45 = true := by kernel_rfl
end Go.Proofs.YtlmipikebibmaaaGreatDoor

