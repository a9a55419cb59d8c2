/- Answers of the evaluator, by the kernel. No conditions. -/
import Derived.Test.YtlmipikebibmaaaGreatDoorTM
import Derived.KernelRfl
set_option linter.unusedVariables false
set_option linter.unusedSimpArgs false
namespace Go.Proofs.YtlmipikebibmaaaGreatDoor
open Go.Ev
set_option maxRecDepth 1000000
theorem l16 : resQ (callG CC (T0 Q16) 5000 f_pick_ObjectOf a16 []) v16 = true := by kernel_rfl
theorem l17 : resQ (callG CC (T0 Q17) 5000 f_root_Value a17 []) v17 = true := by kernel_rfl
theorem l18 : resQ (callG CC (T0 Q18) 5000 f_value_May a18 []) v18 = true := by kernel_rfl
theorem l19 : resQ (callG CC (T0 Q19) 5000 f_value_May a19 []) v19 = true := by kernel_rfl
theorem l20 : resQ (callG CC (T0 Q20) 5000 f_canon_Encode a20 []) v20 = true := by kernel_rfl
end Go.Proofs.YtlmipikebibmaaaGreatDoor

