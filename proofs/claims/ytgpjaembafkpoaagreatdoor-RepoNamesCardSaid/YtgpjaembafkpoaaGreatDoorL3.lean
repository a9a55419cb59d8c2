/- Answers of the evaluator, by the kernel. No conditions. -/
import Derived.Test.YtgpjaembafkpoaaGreatDoorTM
import Derived.KernelRfl
set_option linter.unusedVariables false
set_option linter.unusedSimpArgs false
namespace Go.Proofs.YtgpjaembafkpoaaGreatDoor
open Go.Ev
set_option maxRecDepth 1000000
theorem l17 : resQ (callG CC (T0 Q17) 5000 f_canon_Encode a17 []) v17 = true := by kernel_rfl
theorem l18 : resQ (callG CC (T0 Q18) 5000 f_sign_Signed a18 []) v18 = true := by kernel_rfl
theorem l19 : resQ (callG CC (T0 Q19) 5000 f_mac_Of a19 []) v19 = true := by kernel_rfl
theorem l20 : resQ (callG CC (T0 Q20) 5000 f_value_May a20 []) v20 = true := by kernel_rfl
theorem l21 : resQ (callG CC (T0 Q21) 5000 f_canon_Encode a21 []) v21 = true := by kernel_rfl
theorem l22 : resQ (callG CC (T0 Q22) 5000 f_legatelaw28_ex a22 []) v22 = true := by kernel_rfl
theorem l23 : resQ (callG CC (T0 Q23) 5000 f_lex_rules a23 []) v23 = true := by kernel_rfl
end Go.Proofs.YtgpjaembafkpoaaGreatDoor

