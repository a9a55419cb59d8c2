/- Answers of the evaluator, by the kernel. No conditions. -/
import Derived.Test.YtomedkaiefgbeaaGreatDoorTM
import Derived.KernelRfl
set_option linter.unusedVariables false
set_option linter.unusedSimpArgs false
namespace Go.Proofs.YtomedkaiefgbeaaGreatDoor
open Go.Ev
set_option maxRecDepth 1000000
theorem l295 : resQ (a0a CC (T0 Q295) 5000 a0f a295 []) v295 = true:=by kernel_rfl
theorem l296 : resQ (a0a CC (T0 Q296) 5000 a1j a296 []) v296 = true:=by kernel_rfl
theorem l297 : resQ (a0a CC (T0 Q297) 5000 a0c a297 []) v297 = true:=by kernel_rfl
theorem l298 : resQ (a0a CC (T0 Q298) 5000 a0f a298 []) v298 = true:=by kernel_rfl
theorem l299 : resQ (a0a CC (T0 Q299) 5000 a0d a299 []) v299 = true:=by kernel_rfl
theorem l300 : resQ (a0a CC (T0 Q300) 5000 a0q a300 []) v300 = true:=by kernel_rfl
theorem l301 : resQ (a0a CC (T0 Q301) 5000 a0h a301 []) v301 = true:=by kernel_rfl
theorem l302 : resQ (a0a CC (T0 Q302) 5000 a1e a302 []) v302 = true:=by kernel_rfl
theorem l303 : resQ (a0a CC (T0 Q303) 5000 a0z a303 []) v303 = true:=by kernel_rfl
theorem l304 : resQ (a0a CC (T0 Q304) 5000 a1b a304 []) v304 = true:=by kernel_rfl
theorem l305 : resQ (a0a CC (T0 Q305) 5000 a3s a305 []) v305 = true:=by kernel_rfl
theorem l306 : resQ (a0a CC (T0 Q306) 5000 a0e a306 []) v306 = true:=by kernel_rfl
theorem l307 : resQ (a0a CC (T0 Q307) 5000 a0d a307 []) v307 = true:=by kernel_rfl
theorem l308 : resQ (a0a CC (T0 Q308) 5000 a0e a308 []) v308 = true:=by kernel_rfl
theorem l309 : resQ (a0a CC (T0 Q309) 5000 a3n a309 []) v309 = true:=by kernel_rfl
theorem l310 : resQ (a0a CC (T0 Q310) 5000 a1p a310 []) v310 = true:=by kernel_rfl
theorem l311 : resQ (a0a CC (T0 Q311) 5000 a0c a311 []) v311 = true:=by kernel_rfl
theorem l312 : resQ (a0a CC (T0 Q312) 5000 a0c a312 []) v312 = true:=by kernel_rfl
end Go.Proofs.YtomedkaiefgbeaaGreatDoor
