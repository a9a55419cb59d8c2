/- Answers of the evaluator, by the kernel. No conditions. -/
import Derived.Test.YtgpjaembafkpoaaGreatDoorTM
import Derived.KernelRfl
set_option linter.unusedVariables false
set_option linter.unusedSimpArgs false
namespace Go.Proofs.YtgpjaembafkpoaaGreatDoor
open Go.Ev
set_option maxRecDepth 1000000
theorem l0 : resQ (callG CC (T0 Q0) 5000 f_canon_Encode a0 []) v0 = true := by kernel_rfl
theorem l1 : resQ (callG CC (T0 Q1) 5000 f_key_ID a1 []) v1 = true := by kernel_rfl
theorem l2 : resQ (callG CC (T0 Q2) 5000 f_pick_ObjectOf a2 []) v2 = true := by kernel_rfl
theorem l3 : resQ (callG CC (T0 Q3) 5000 f_root_Value a3 []) v3 = true := by kernel_rfl
theorem l4 : resQ (callG CC (T0 Q4) 5000 f_snap_Value a4 []) v4 = true := by kernel_rfl
theorem l5 : resQ (callG CC (T0 Q5) 5000 f_deleg_May a5 []) v5 = true := by kernel_rfl
theorem l6 : resQ (callG CC (T0 Q6) 5000 f_targ_May a6 []) v6 = true := by kernel_rfl
end Go.Proofs.YtgpjaembafkpoaaGreatDoor

