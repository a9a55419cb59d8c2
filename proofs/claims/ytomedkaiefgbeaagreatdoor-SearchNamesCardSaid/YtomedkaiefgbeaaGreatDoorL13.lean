/- Answers of the evaluator, by the kernel. No conditions. -/
import Derived.Test.YtomedkaiefgbeaaGreatDoorTM
import Derived.KernelRfl
set_option linter.unusedVariables false
set_option linter.unusedSimpArgs false
namespace Go.Proofs.YtomedkaiefgbeaaGreatDoor
open Go.Ev
set_option maxRecDepth 1000000
theorem l279 : resQ (a0a CC (T0 Q279) 5000 a0q a279 []) v279 = true:=by kernel_rfl
theorem l280 : resQ (a0a CC (T0 Q280) 5000 a0h a280 []) v280 = true:=by kernel_rfl
theorem l281 : resQ (a0a CC (T0 Q281) 5000 a1e a281 []) v281 = true:=by kernel_rfl
theorem l282 : resQ (a0a CC (T0 Q282) 5000 a0z a282 []) v282 = true:=by kernel_rfl
theorem l283 : resQ (a0a CC (T0 Q283) 5000 a1b a283 []) v283 = true:=by kernel_rfl
theorem l284 : resQ (a0a CC (T0 Q284) 5000 a3s a284 []) v284 = true:=by kernel_rfl
theorem l285 : resQ (a0a CC (T0 Q285) 5000 a0q a285 []) v285 = true:=by kernel_rfl
theorem l286 : resQ (a0a CC (T0 Q286) 5000 a0z a286 []) v286 = true:=by kernel_rfl
theorem l287 : resQ (a0a CC (T0 Q287) 5000 a4s a287 []) v287 = true:=by kernel_rfl
theorem l288 : resQ (a0a CC (T0 Q288) 5000 a0e a288 []) v288 = true:=by kernel_rfl
theorem l289 : resQ (a0a CC (T0 Q289) 5000 a0e a289 []) v289 = true:=by kernel_rfl
theorem l290 : resQ (a0a CC (T0 Q290) 5000 a3n a290 []) v290 = true:=by kernel_rfl
theorem l291 : resQ (a0a CC (T0 Q291) 5000 a0l a291 []) v291 = true:=by kernel_rfl
theorem l292 : resQ (a0a CC (T0 Q292) 5000 a1p a292 []) v292 = true:=by kernel_rfl
theorem l293 : resQ (a0a CC (T0 Q293) 5000 a0c a293 []) v293 = true:=by kernel_rfl
theorem l294 : resQ (a0a CC (T0 Q294) 5000 a0c a294 []) v294 = true:=by kernel_rfl
end Go.Proofs.YtomedkaiefgbeaaGreatDoor
