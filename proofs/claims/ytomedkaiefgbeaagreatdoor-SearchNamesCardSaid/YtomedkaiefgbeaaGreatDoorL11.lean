/- Answers of the evaluator, by the kernel. No conditions. -/
import Derived.Test.YtomedkaiefgbeaaGreatDoorTM
import Derived.KernelRfl
set_option linter.unusedVariables false
set_option linter.unusedSimpArgs false
namespace Go.Proofs.YtomedkaiefgbeaaGreatDoor
open Go.Ev
set_option maxRecDepth 1000000
theorem l238 : resQ (a0a CC (T0 Q238) 5000 a0e a238 []) v238 = true:=by kernel_rfl
theorem l239 : resQ (a0a CC (T0 Q239) 5000 a0e a239 []) v239 = true:=by kernel_rfl
theorem l240 : resQ (a0a CC (T0 Q240) 5000 a0e a240 []) v240 = true:=by kernel_rfl
theorem l241 : resQ (a0a CC (T0 Q241) 5000 a0e a241 []) v241 = true:=by kernel_rfl
theorem l242 : resQ (a0a CC (T0 Q242) 5000 a0e a242 []) v242 = true:=by kernel_rfl
theorem l243 : resQ (a0a CC (T0 Q243) 5000 a0e a243 []) v243 = true:=by kernel_rfl
theorem l244 : resQ (a0a CC (T0 Q244) 5000 a3n a244 []) v244 = true:=by kernel_rfl
theorem l245 : resQ (a0a CC (T0 Q245) 5000 a0l a245 []) v245 = true:=by kernel_rfl
theorem l246 : resQ (a0a CC (T0 Q246) 5000 a1p a246 []) v246 = true:=by kernel_rfl
theorem l247 : resQ (a0a CC (T0 Q247) 5000 a0c a247 []) v247 = true:=by kernel_rfl
theorem l248 : resQ (a0a CC (T0 Q248) 5000 a0c a248 []) v248 = true:=by kernel_rfl
theorem l249 : resQ (a0a CC (T0 Q249) 5000 a0f a249 []) v249 = true:=by kernel_rfl
theorem l250 : resQ (a0a CC (T0 Q250) 5000 a1j a250 []) v250 = true:=by kernel_rfl
theorem l251 : resQ (a0a CC (T0 Q251) 5000 a0c a251 []) v251 = true:=by kernel_rfl
theorem l252 : resQ (a0a CC (T0 Q252) 5000 a0f a252 []) v252 = true:=by kernel_rfl
theorem l253 : resQ (a0a CC (T0 Q253) 5000 a0d a253 []) v253 = true:=by kernel_rfl
end Go.Proofs.YtomedkaiefgbeaaGreatDoor
