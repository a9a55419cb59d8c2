/- Answers of the evaluator, by the kernel. No conditions. -/
import Derived.Test.YtomedkaiefgbeaaGreatDoorTM
import Derived.KernelRfl
set_option linter.unusedVariables false
set_option linter.unusedSimpArgs false
namespace Go.Proofs.YtomedkaiefgbeaaGreatDoor
open Go.Ev
set_option maxRecDepth 1000000
theorem l118 : resQ (a0a CC (T0 Q118) 5000 a0q a118 []) v118 = true:=by kernel_rfl
theorem l119 : resQ (a0a CC (T0 Q119) 5000 a0h a119 []) v119 = true:=by kernel_rfl
theorem l120 : resQ (a0a CC (T0 Q120) 5000 a1e a120 []) v120 = true:=by kernel_rfl
theorem l121 : resQ (a0a CC (T0 Q121) 5000 a0z a121 []) v121 = true:=by kernel_rfl
theorem l122 : resQ (a0a CC (T0 Q122) 5000 a1b a122 []) v122 = true:=by kernel_rfl
theorem l123 : resQ (a0a CC (T0 Q123) 5000 a1b a123 []) v123 = true:=by kernel_rfl
theorem l124 : resQ (a0a CC (T0 Q124) 5000 a3s a124 []) v124 = true:=by kernel_rfl
theorem l125 : resQ (a0a CC (T0 Q125) 5000 a0q a125 []) v125 = true:=by kernel_rfl
theorem l126 : resQ (a0a CC (T0 Q126) 5000 a0h a126 []) v126 = true:=by kernel_rfl
theorem l127 : resQ (a0a CC (T0 Q127) 5000 a0h a127 []) v127 = true:=by kernel_rfl
theorem l128 : resQ (a0a CC (T0 Q128) 5000 a0z a128 []) v128 = true:=by kernel_rfl
theorem l129 : resQ (a0a CC (T0 Q129) 5000 a2n a129 []) v129 = true:=by kernel_rfl
theorem l130 : resQ (a0a CC (T0 Q130) 5000 a4s a130 []) v130 = true:=by kernel_rfl
theorem l131 : resQ (a0a CC (T0 Q131) 5000 a3y a131 []) v131 = true:=by kernel_rfl
end Go.Proofs.YtomedkaiefgbeaaGreatDoor
