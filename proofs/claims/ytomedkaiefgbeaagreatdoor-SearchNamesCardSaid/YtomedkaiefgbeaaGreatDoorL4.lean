/- Answers of the evaluator, by the kernel. No conditions. -/
import Derived.Test.YtomedkaiefgbeaaGreatDoorTM
import Derived.KernelRfl
set_option linter.unusedVariables false
set_option linter.unusedSimpArgs false
namespace Go.Proofs.YtomedkaiefgbeaaGreatDoor
open Go.Ev
set_option maxRecDepth 1000000
theorem l94 : resQ (a0a CC (T0 Q94) 5000 a0e a94 []) v94 = true:=by kernel_rfl
theorem l95 : resQ (a0a CC (T0 Q95) 5000 a0h a95 []) v95 = true:=by kernel_rfl
theorem l96 : resQ (a0a CC (T0 Q96) 5000 a1t a96 []) v96 = true:=by kernel_rfl
theorem l97 : resQ (a0a CC (T0 Q97) 5000 a0c a97 []) v97 = true:=by kernel_rfl
theorem l98 : resQ (a0a CC (T0 Q98) 5000 a0h a98 []) v98 = true:=by kernel_rfl
theorem l99 : resQ (a0a CC (T0 Q99) 5000 a1y a99 []) v99 = true:=by kernel_rfl
theorem l100 : resQ (a0a CC (T0 Q100) 5000 a0c a100 []) v100 = true:=by kernel_rfl
theorem l101 : resQ (a0a CC (T0 Q101) 5000 a0c a101 []) v101 = true:=by kernel_rfl
theorem l102 : resQ (a0a CC (T0 Q102) 5000 a0f a102 []) v102 = true:=by kernel_rfl
theorem l103 : resQ (a0a CC (T0 Q103) 5000 a1j a103 []) v103 = true:=by kernel_rfl
theorem l104 : resQ (a0a CC (T0 Q104) 5000 a0c a104 []) v104 = true:=by kernel_rfl
theorem l105 : resQ (a0a CC (T0 Q105) 5000 a0f a105 []) v105 = true:=by kernel_rfl
theorem l106 : resQ (a0a CC (T0 Q106) 5000 a2d a106 []) v106 = true:=by kernel_rfl
theorem l107 : resQ (a0a CC (T0 Q107) 5000 a3n a107 []) v107 = true:=by kernel_rfl
theorem l108 : resQ (a0a CC (T0 Q108) 5000 a2v a108 []) v108 = true:=by kernel_rfl
theorem l109 : resQ (a0a CC (T0 Q109) 5000 a0l a109 []) v109 = true:=by kernel_rfl
theorem l110 : resQ (a0a CC (T0 Q110) 5000 a1p a110 []) v110 = true:=by kernel_rfl
theorem l111 : resQ (a0a CC (T0 Q111) 5000 a0c a111 []) v111 = true:=by kernel_rfl
theorem l112 : resQ (a0a CC (T0 Q112) 5000 a0c a112 []) v112 = true:=by kernel_rfl
theorem l113 : resQ (a0a CC (T0 Q113) 5000 a0f a113 []) v113 = true:=by kernel_rfl
theorem l114 : resQ (a0a CC (T0 Q114) 5000 a1j a114 []) v114 = true:=by kernel_rfl
theorem l115 : resQ (a0a CC (T0 Q115) 5000 a0c a115 []) v115 = true:=by kernel_rfl
theorem l116 : resQ (a0a CC (T0 Q116) 5000 a0f a116 []) v116 = true:=by kernel_rfl
theorem l117 : resQ (a0a CC (T0 Q117) 5000 a0d a117 []) v117 = true:=by kernel_rfl
end Go.Proofs.YtomedkaiefgbeaaGreatDoor
