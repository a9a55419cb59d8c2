/- Answers of the evaluator, by the kernel. No conditions. -/
import Derived.Test.YtlmipikebibmaaaGreatDoorTM
import Derived.KernelRfl
set_option linter.unusedVariables false
set_option linter.unusedSimpArgs false
namespace Go.Proofs.YtlmipikebibmaaaGreatDoor
open Go.Ev
set_option maxRecDepth 1000000
theorem l32 : resQ (callG CC (T0 Q32) 5000 f_mac_Of a32 []) v32 = true := by kernel_rfl
theorem l33 : resQ (callG CC (T0 Q33) 5000 f_value_May a33 []) v33 = true := by kernel_rfl
theorem l34 : resQ (callG CC (T0 Q34) 5000 f_canon_Encode a34 []) v34 = true := by kernel_rfl
end Go.Proofs.YtlmipikebibmaaaGreatDoor

