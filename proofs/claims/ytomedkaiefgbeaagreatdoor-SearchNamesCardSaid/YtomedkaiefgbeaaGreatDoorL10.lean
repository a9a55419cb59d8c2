/- Answers of the evaluator, by the kernel. No conditions. -/
import Derived.Test.YtomedkaiefgbeaaGreatDoorTM
import Derived.KernelRfl
set_option linter.unusedVariables false
set_option linter.unusedSimpArgs false
namespace Go.Proofs.YtomedkaiefgbeaaGreatDoor
open Go.Ev
set_option maxRecDepth 1000000
theorem l223 : resQ (a0a CC (T0 Q223) 5000 a1b a223 []) v223 = true:=by kernel_rfl
theorem l224 : resQ (a0a CC (T0 Q224) 5000 a1b a224 []) v224 = true:=by kernel_rfl
theorem l225 : resQ (a0a CC (T0 Q225) 5000 a3s a225 []) v225 = true:=by kernel_rfl
theorem l226 : resQ (a0a CC (T0 Q226) 5000 a0q a226 []) v226 = true:=by kernel_rfl
theorem l227 : resQ (a0a CC (T0 Q227) 5000 a0h a227 []) v227 = true:=by kernel_rfl
theorem l228 : resQ (a0a CC (T0 Q228) 5000 a0h a228 []) v228 = true:=by kernel_rfl
theorem l229 : resQ (a0a CC (T0 Q229) 5000 a0z a229 []) v229 = true:=by kernel_rfl
theorem l230 : resQ (a0a CC (T0 Q230) 5000 a4s a230 []) v230 = true:=by kernel_rfl
theorem l231 : resQ (a0a CC (T0 Q231) 5000 a3y a231 []) v231 = true:=by kernel_rfl
theorem l232 : resQ (a0a CC (T0 Q232) 5000 a0q a232 []) v232 = true:=by kernel_rfl
theorem l233 : resQ (a0a CC (T0 Q233) 5000 a0h a233 []) v233 = true:=by kernel_rfl
theorem l234 : resQ (a0a CC (T0 Q234) 5000 a1e a234 []) v234 = true:=by kernel_rfl
theorem l235 : resQ (a0a CC (T0 Q235) 5000 a0z a235 []) v235 = true:=by kernel_rfl
theorem l236 : resQ (a0a CC (T0 Q236) 5000 c6b a236 []) v236 = true:=by kernel_rfl
theorem l237 : resQ (a0a CC (T0 Q237) 5000 a4s a237 []) v237 = true:=by kernel_rfl
end Go.Proofs.YtomedkaiefgbeaaGreatDoor
