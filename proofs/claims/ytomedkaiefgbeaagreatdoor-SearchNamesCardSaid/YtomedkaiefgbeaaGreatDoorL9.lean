/- Answers of the evaluator, by the kernel. No conditions. -/
import Derived.Test.YtomedkaiefgbeaaGreatDoorTM
import Derived.KernelRfl
set_option linter.unusedVariables false
set_option linter.unusedSimpArgs false
namespace Go.Proofs.YtomedkaiefgbeaaGreatDoor
open Go.Ev
set_option maxRecDepth 1000000
theorem l196 : resQ (a0a CC (T0 Q196) 5000 a0f a196 []) v196 = true:=by kernel_rfl
theorem l197 : resQ (a0a CC (T0 Q197) 5000 a2d a197 []) v197 = true:=by kernel_rfl
theorem l198 : resQ (a0a CC (T0 Q198) 5000 a1t a198 []) v198 = true:=by kernel_rfl
theorem l199 : resQ (a0a CC (T0 Q199) 5000 a0c a199 []) v199 = true:=by kernel_rfl
theorem l200 : resQ (a0a CC (T0 Q200) 5000 a0l a200 []) v200 = true:=by kernel_rfl
theorem l201 : resQ (a0a CC (T0 Q201) 5000 a0c a201 []) v201 = true:=by kernel_rfl
theorem l202 : resQ (a0a CC (T0 Q202) 5000 b1l a202 []) v202 = true:=by kernel_rfl
theorem l203 : resQ (a0a CC (T0 Q203) 5000 a0c a203 []) v203 = true:=by kernel_rfl
theorem l204 : resQ (a0a CC (T0 Q204) 5000 a0f a204 []) v204 = true:=by kernel_rfl
theorem l205 : resQ (a0a CC (T0 Q205) 5000 a1j a205 []) v205 = true:=by kernel_rfl
theorem l206 : resQ (a0a CC (T0 Q206) 5000 a0c a206 []) v206 = true:=by kernel_rfl
theorem l207 : resQ (a0a CC (T0 Q207) 5000 a0f a207 []) v207 = true:=by kernel_rfl
theorem l208 : resQ (a0a CC (T0 Q208) 5000 a2d a208 []) v208 = true:=by kernel_rfl
theorem l209 : resQ (a0a CC (T0 Q209) 5000 a3n a209 []) v209 = true:=by kernel_rfl
theorem l210 : resQ (a0a CC (T0 Q210) 5000 a0l a210 []) v210 = true:=by kernel_rfl
theorem l211 : resQ (a0a CC (T0 Q211) 5000 a1p a211 []) v211 = true:=by kernel_rfl
theorem l212 : resQ (a0a CC (T0 Q212) 5000 a0c a212 []) v212 = true:=by kernel_rfl
theorem l213 : resQ (a0a CC (T0 Q213) 5000 a0c a213 []) v213 = true:=by kernel_rfl
theorem l214 : resQ (a0a CC (T0 Q214) 5000 a0f a214 []) v214 = true:=by kernel_rfl
theorem l215 : resQ (a0a CC (T0 Q215) 5000 a1j a215 []) v215 = true:=by kernel_rfl
theorem l216 : resQ (a0a CC (T0 Q216) 5000 a0c a216 []) v216 = true:=by kernel_rfl
theorem l217 : resQ (a0a CC (T0 Q217) 5000 a0f a217 []) v217 = true:=by kernel_rfl
theorem l218 : resQ (a0a CC (T0 Q218) 5000 a0d a218 []) v218 = true:=by kernel_rfl
theorem l219 : resQ (a0a CC (T0 Q219) 5000 a0q a219 []) v219 = true:=by kernel_rfl
theorem l220 : resQ (a0a CC (T0 Q220) 5000 a0h a220 []) v220 = true:=by kernel_rfl
theorem l221 : resQ (a0a CC (T0 Q221) 5000 a1e a221 []) v221 = true:=by kernel_rfl
theorem l222 : resQ (a0a CC (T0 Q222) 5000 a0z a222 []) v222 = true:=by kernel_rfl
end Go.Proofs.YtomedkaiefgbeaaGreatDoor
