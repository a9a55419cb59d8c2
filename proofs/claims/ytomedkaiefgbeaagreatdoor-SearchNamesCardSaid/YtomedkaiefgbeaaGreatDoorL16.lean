/- Answers of the evaluator, by the kernel. No conditions. -/
import Derived.Test.YtomedkaiefgbeaaGreatDoorTM
import Derived.KernelRfl
set_option linter.unusedVariables false
set_option linter.unusedSimpArgs false
namespace Go.Proofs.YtomedkaiefgbeaaGreatDoor
open Go.Ev
set_option maxRecDepth 1000000
theorem l338 : resQ (a0a CC (T0 Q338) 5000 a1p a338 []) v338 = true:=by kernel_rfl
theorem l339 : resQ (a0a CC (T0 Q339) 5000 a0c a339 []) v339 = true:=by kernel_rfl
theorem l340 : resQ (a0a CC (T0 Q340) 5000 a0c a340 []) v340 = true:=by kernel_rfl
theorem l341 : resQ (a0a CC (T0 Q341) 5000 a0f a341 []) v341 = true:=by kernel_rfl
theorem l342 : resQ (a0a CC (T0 Q342) 5000 a1j a342 []) v342 = true:=by kernel_rfl
theorem l343 : resQ (a0a CC (T0 Q343) 5000 a0c a343 []) v343 = true:=by kernel_rfl
theorem l344 : resQ (a0a CC (T0 Q344) 5000 a0f a344 []) v344 = true:=by kernel_rfl
theorem l345 : resQ (a0a CC (T0 Q345) 5000 a0d a345 []) v345 = true:=by kernel_rfl
theorem l346 : resQ (a0a CC (T0 Q346) 5000 a0q a346 []) v346 = true:=by kernel_rfl
theorem l347 : resQ (a0a CC (T0 Q347) 5000 a0h a347 []) v347 = true:=by kernel_rfl
theorem l348 : resQ (a0a CC (T0 Q348) 5000 a1e a348 []) v348 = true:=by kernel_rfl
theorem l349 : resQ (a0a CC (T0 Q349) 5000 a0z a349 []) v349 = true:=by kernel_rfl
theorem l350 : resQ (a0a CC (T0 Q350) 5000 a1b a350 []) v350 = true:=by kernel_rfl
theorem l351 : resQ (a0a CC (T0 Q351) 5000 a3s a351 []) v351 = true:=by kernel_rfl
theorem l352 : resQ (a0a CC (T0 Q352) 5000 a0q a352 []) v352 = true:=by kernel_rfl
end Go.Proofs.YtomedkaiefgbeaaGreatDoor
