/- Answers of the evaluator, by the kernel. No conditions. -/
import Derived.Test.YtlmipikebibmaaaGreatDoorTM
import Derived.KernelRfl
set_option linter.unusedVariables false
set_option linter.unusedSimpArgs false
namespace Go.Proofs.YtlmipikebibmaaaGreatDoor
open Go.Ev
set_option maxRecDepth 1000000
theorem l42 : resQ (callG CC (T0 Q42) 5000 f_read_Read a42 []) v42 = true := by kernel_rfl
end Go.Proofs.YtlmipikebibmaaaGreatDoor

