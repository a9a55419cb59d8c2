/- Answers of the evaluator, by the kernel. No conditions. -/
import Derived.Test.YtgpjaembafkpoaaGreatDoorTM
import Derived.KernelRfl
set_option linter.unusedVariables false
set_option linter.unusedSimpArgs false
namespace Go.Proofs.YtgpjaembafkpoaaGreatDoor
open Go.Ev
set_option maxRecDepth 1000000
theorem l24 : resQ (callG CC (T0 Q24) 5000 f_read_Read a24 []) v24 = true := by kernel_rfl
end Go.Proofs.YtgpjaembafkpoaaGreatDoor

