/- Answers of the evaluator, by the kernel. No conditions. -/
import Derived.Test.YtlmipikebibmaaaGreatDoorTM
import Derived.KernelRfl
set_option linter.unusedVariables false
set_option linter.unusedSimpArgs false
namespace Go.Proofs.YtlmipikebibmaaaGreatDoor
open Go.Ev
set_option maxRecDepth 1000000
theorem l21 : resQ (callG CC (T0 Q21) 5000 f_mac_Of a21 []) v21 = true := by kernel_rfl
theorem l22 : resQ (callG CC (T0 Q22) 5000 f_value_May a22 []) v22 = true := by kernel_rfl
theorem l23 : resQ (callG CC (T0 Q23) 5000 f_canon_Encode a23 []) v23 = true := by kernel_rfl
end Go.Proofs.YtlmipikebibmaaaGreatDoor

