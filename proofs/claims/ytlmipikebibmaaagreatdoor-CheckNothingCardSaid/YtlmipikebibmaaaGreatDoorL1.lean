/- Answers of the evaluator, by the kernel. No conditions. -/
import Derived.Test.YtlmipikebibmaaaGreatDoorTM
import Derived.KernelRfl
set_option linter.unusedVariables false
set_option linter.unusedSimpArgs false
namespace Go.Proofs.YtlmipikebibmaaaGreatDoor
open Go.Ev
set_option maxRecDepth 1000000
theorem l7 : resQ (callG CC (T0 Q7) 5000 f_canon_Encode a7 []) v7 = true := by kernel_rfl
theorem l8 : resQ (callG CC (T0 Q8) 5000 f_lex_rules a8 []) v8 = true := by kernel_rfl
end Go.Proofs.YtlmipikebibmaaaGreatDoor

