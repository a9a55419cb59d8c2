/- Answers of the evaluator, by the kernel. No conditions. -/
import Derived.Test.YtlmipikebibmaaaGreatDoorTM
import Derived.KernelRfl
set_option linter.unusedVariables false
set_option linter.unusedSimpArgs false
namespace Go.Proofs.YtlmipikebibmaaaGreatDoor
open Go.Ev
set_option maxRecDepth 1000000
theorem l36 : resQ (callG CC (T0 Q36) 5000 f_sign_Of a36 []) v36 = true := by kernel_rfl
theorem l37 : resQ (callG CC (T0 Q37) 5000 f_canon_Encode a37 []) v37 = true := by kernel_rfl
theorem l38 : resQ (callG CC (T0 Q38) 5000 f_mac_Of a38 []) v38 = true := by kernel_rfl
theorem l39 : resQ (callG CC (T0 Q39) 5000 f_value_May a39 []) v39 = true := by kernel_rfl
theorem l40 : resQ (callG CC (T0 Q40) 5000 f_canon_Encode a40 []) v40 = true := by kernel_rfl
theorem l41 : resQ (callG CC (T0 Q41) 5000 f_legatelaw27_file a41 []) v41 = true := by kernel_rfl
end Go.Proofs.YtlmipikebibmaaaGreatDoor

