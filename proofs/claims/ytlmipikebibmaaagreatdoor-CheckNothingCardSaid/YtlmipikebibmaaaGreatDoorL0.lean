/- Answers of the evaluator, by the kernel. No conditions. -/
import Derived.Test.YtlmipikebibmaaaGreatDoorTM
import Derived.KernelRfl
set_option linter.unusedVariables false
set_option linter.unusedSimpArgs false
namespace Go.Proofs.YtlmipikebibmaaaGreatDoor
open Go.Ev
set_option maxRecDepth 1000000
theorem l0 : resQ (callG CC (T0 Q0) 5000 f_canon_Encode a0 []) v0 = true := by kernel_rfl
theorem l1 : resQ (callG CC (T0 Q1) 5000 f_key_ID a1 []) v1 = true := by kernel_rfl
theorem l2 : resQ (callG CC (T0 Q2) 5000 f_deleg_May a2 []) v2 = true := by kernel_rfl
theorem l3 : resQ (callG CC (T0 Q3) 5000 f_targ_May a3 []) v3 = true := by kernel_rfl
theorem l4 : resQ (callG CC (T0 Q4) 5000 f_sign_Signed a4 []) v4 = true := by kernel_rfl
theorem l5 : resQ (callG CC (T0 Q5) 5000 f_mac_Of a5 []) v5 = true := by kernel_rfl
theorem l6 : resQ (callG CC (T0 Q6) 5000 f_value_May a6 []) v6 = true := by kernel_rfl
end Go.Proofs.YtlmipikebibmaaaGreatDoor

