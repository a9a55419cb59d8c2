/- Answers of the evaluator, by the kernel. No conditions. -/
import Derived.Test.YtomedkaiefgbeaaGreatDoorTM
import Derived.KernelRfl
set_option linter.unusedVariables false
set_option linter.unusedSimpArgs false
namespace Go.Proofs.YtomedkaiefgbeaaGreatDoor
open Go.Ev
set_option maxRecDepth 1000000
theorem l39 : resQ (a0a CC (T0 Q39) 5000 a1p a39 []) v39 = true:=by kernel_rfl
theorem l40 : resQ (a0a CC (T0 Q40) 5000 a0c a40 []) v40 = true:=by kernel_rfl
theorem l41 : resQ (a0a CC (T0 Q41) 5000 a0c a41 []) v41 = true:=by kernel_rfl
theorem l42 : resQ (a0a CC (T0 Q42) 5000 a0f a42 []) v42 = true:=by kernel_rfl
theorem l43 : resQ (a0a CC (T0 Q43) 5000 a1j a43 []) v43 = true:=by kernel_rfl
theorem l44 : resQ (a0a CC (T0 Q44) 5000 a0c a44 []) v44 = true:=by kernel_rfl
theorem l45 : resQ (a0a CC (T0 Q45) 5000 a0f a45 []) v45 = true:=by kernel_rfl
theorem l46 : resQ (a0a CC (T0 Q46) 5000 a0d a46 []) v46 = true:=by kernel_rfl
theorem l47 : resQ (a0a CC (T0 Q47) 5000 c9q a47 []) v47 = true:=by kernel_rfl
theorem l48 : resQ (a0a CC (T0 Q48) 5000 a0q a48 []) v48 = true:=by kernel_rfl
theorem l49 : resQ (a0a CC (T0 Q49) 5000 a0h a49 []) v49 = true:=by kernel_rfl
theorem l50 : resQ (a0a CC (T0 Q50) 5000 a0h a50 []) v50 = true:=by kernel_rfl
theorem l51 : resQ (a0a CC (T0 Q51) 5000 a0z a51 []) v51 = true:=by kernel_rfl
theorem l52 : resQ (a0a CC (T0 Q52) 5000 c5r a52 []) v52 = true:=by kernel_rfl
theorem l53 : resQ (a0a CC (T0 Q53) 5000 e1z a53 []) v53 = true:=by kernel_rfl
theorem l54 : resQ (a0a CC (T0 Q54) 5000 b8f a54 []) v54 = true:=by kernel_rfl
theorem l55 : resQ (a0a CC (T0 Q55) 5000 e2x a55 []) v55 = true:=by kernel_rfl
theorem l56 : resQ (a0a CC (T0 Q56) 5000 a0q a56 []) v56 = true:=by kernel_rfl
theorem l57 : resQ (a0a CC (T0 Q57) 5000 a0h a57 []) v57 = true:=by kernel_rfl
theorem l58 : resQ (a0a CC (T0 Q58) 5000 a1e a58 []) v58 = true:=by kernel_rfl
theorem l59 : resQ (a0a CC (T0 Q59) 5000 a0z a59 []) v59 = true:=by kernel_rfl
end Go.Proofs.YtomedkaiefgbeaaGreatDoor
