/- Answers of the evaluator, by the kernel. No conditions. -/
import Derived.Test.YtomedkaiefgbeaaGreatDoorTM
import Derived.KernelRfl
set_option linter.unusedVariables false
set_option linter.unusedSimpArgs false
namespace Go.Proofs.YtomedkaiefgbeaaGreatDoor
open Go.Ev
set_option maxRecDepth 1000000
theorem l132 : resQ (a0a CC (T0 Q132) 5000 a0e a132 []) v132 = true:=by kernel_rfl
theorem l133 : resQ (a0a CC (T0 Q133) 5000 a3n a133 []) v133 = true:=by kernel_rfl
theorem l134 : resQ (a0a CC (T0 Q134) 5000 a0l a134 []) v134 = true:=by kernel_rfl
theorem l135 : resQ (a0a CC (T0 Q135) 5000 a1p a135 []) v135 = true:=by kernel_rfl
theorem l136 : resQ (a0a CC (T0 Q136) 5000 a0c a136 []) v136 = true:=by kernel_rfl
theorem l137 : resQ (a0a CC (T0 Q137) 5000 a0c a137 []) v137 = true:=by kernel_rfl
theorem l138 : resQ (a0a CC (T0 Q138) 5000 a0f a138 []) v138 = true:=by kernel_rfl
theorem l139 : resQ (a0a CC (T0 Q139) 5000 a1j a139 []) v139 = true:=by kernel_rfl
theorem l140 : resQ (a0a CC (T0 Q140) 5000 a0c a140 []) v140 = true:=by kernel_rfl
theorem l141 : resQ (a0a CC (T0 Q141) 5000 a0f a141 []) v141 = true:=by kernel_rfl
theorem l142 : resQ (a0a CC (T0 Q142) 5000 a0d a142 []) v142 = true:=by kernel_rfl
theorem l143 : resQ (a0a CC (T0 Q143) 5000 a0q a143 []) v143 = true:=by kernel_rfl
theorem l144 : resQ (a0a CC (T0 Q144) 5000 a0h a144 []) v144 = true:=by kernel_rfl
theorem l145 : resQ (a0a CC (T0 Q145) 5000 a1e a145 []) v145 = true:=by kernel_rfl
theorem l146 : resQ (a0a CC (T0 Q146) 5000 a0z a146 []) v146 = true:=by kernel_rfl
theorem l147 : resQ (a0a CC (T0 Q147) 5000 a3s a147 []) v147 = true:=by kernel_rfl
theorem l148 : resQ (a0a CC (T0 Q148) 5000 a0e a148 []) v148 = true:=by kernel_rfl
end Go.Proofs.YtomedkaiefgbeaaGreatDoor
