/- Answers of the evaluator, by the kernel. No conditions. -/
import Derived.Test.YtlmipikebibmaaaGreatDoorTM
import Derived.KernelRfl
set_option linter.unusedVariables false
set_option linter.unusedSimpArgs false
namespace Go.Proofs.YtlmipikebibmaaaGreatDoor
open Go.Ev
set_option maxRecDepth 1000000
theorem l46 : resQ (callG CC (T0 Q46) 5000 f_legatelaw27_awake a46 []) v46 = true := by kernel_rfl
end Go.Proofs.YtlmipikebibmaaaGreatDoor

