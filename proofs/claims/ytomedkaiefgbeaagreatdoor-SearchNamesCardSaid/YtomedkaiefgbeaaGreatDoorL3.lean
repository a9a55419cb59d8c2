/- Answers of the evaluator, by the kernel. No conditions. -/
import Derived.Test.YtomedkaiefgbeaaGreatDoorTM
import Derived.KernelRfl
set_option linter.unusedVariables false
set_option linter.unusedSimpArgs false
namespace Go.Proofs.YtomedkaiefgbeaaGreatDoor
open Go.Ev
set_option maxRecDepth 1000000
theorem l79 : resQ (a0a CC (T0 Q79) 5000 a4s a79 []) v79 = true:=by kernel_rfl
theorem l80 : resQ (a0a CC (T0 Q80) 5000 a3y a80 []) v80 = true:=by kernel_rfl
theorem l81 : resQ (a0a CC (T0 Q81) 5000 a9i a81 []) v81 = true:=by kernel_rfl
theorem l82 : resQ (a0a CC (T0 Q82) 5000 b0o a82 []) v82 = true:=by kernel_rfl
theorem l83 : resQ (a0a CC (T0 Q83) 5000 a2v a83 []) v83 = true:=by kernel_rfl
theorem l84 : resQ (a0a CC (T0 Q84) 5000 a1p a84 []) v84 = true:=by kernel_rfl
theorem l85 : resQ (a0a CC (T0 Q85) 5000 a0c a85 []) v85 = true:=by kernel_rfl
theorem l86 : resQ (a0a CC (T0 Q86) 5000 a0f a86 []) v86 = true:=by kernel_rfl
theorem l87 : resQ (a0a CC (T0 Q87) 5000 a1j a87 []) v87 = true:=by kernel_rfl
theorem l88 : resQ (a0a CC (T0 Q88) 5000 a0c a88 []) v88 = true:=by kernel_rfl
theorem l89 : resQ (a0a CC (T0 Q89) 5000 a0f a89 []) v89 = true:=by kernel_rfl
theorem l90 : resQ (a0a CC (T0 Q90) 5000 a0q a90 []) v90 = true:=by kernel_rfl
theorem l91 : resQ (a0a CC (T0 Q91) 5000 a0z a91 []) v91 = true:=by kernel_rfl
theorem l92 : resQ (a0a CC (T0 Q92) 5000 a1b a92 []) v92 = true:=by kernel_rfl
theorem l93 : resQ (a0a CC (T0 Q93) 5000 a3s a93 []) v93 = true:=by kernel_rfl
end Go.Proofs.YtomedkaiefgbeaaGreatDoor
