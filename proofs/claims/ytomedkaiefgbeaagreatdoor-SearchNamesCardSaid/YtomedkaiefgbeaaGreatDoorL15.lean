/- Answers of the evaluator, by the kernel. No conditions. -/
import Derived.Test.YtomedkaiefgbeaaGreatDoorTM
import Derived.KernelRfl
set_option linter.unusedVariables false
set_option linter.unusedSimpArgs false
namespace Go.Proofs.YtomedkaiefgbeaaGreatDoor
open Go.Ev
set_option maxRecDepth 1000000
theorem l313 : resQ (a0a CC (T0 Q313) 5000 a0f a313 []) v313 = true:=by kernel_rfl
theorem l314 : resQ (a0a CC (T0 Q314) 5000 a1j a314 []) v314 = true:=by kernel_rfl
theorem l315 : resQ (a0a CC (T0 Q315) 5000 a0c a315 []) v315 = true:=by kernel_rfl
theorem l316 : resQ (a0a CC (T0 Q316) 5000 a0f a316 []) v316 = true:=by kernel_rfl
theorem l317 : resQ (a0a CC (T0 Q317) 5000 a0d a317 []) v317 = true:=by kernel_rfl
theorem l318 : resQ (a0a CC (T0 Q318) 5000 a0q a318 []) v318 = true:=by kernel_rfl
theorem l319 : resQ (a0a CC (T0 Q319) 5000 a0h a319 []) v319 = true:=by kernel_rfl
theorem l320 : resQ (a0a CC (T0 Q320) 5000 a0z a320 []) v320 = true:=by kernel_rfl
theorem l321 : resQ (a0a CC (T0 Q321) 5000 a3s a321 []) v321 = true:=by kernel_rfl
theorem l322 : resQ (a0a CC (T0 Q322) 5000 a0e a322 []) v322 = true:=by kernel_rfl
theorem l323 : resQ (a0a CC (T0 Q323) 5000 a0h a323 []) v323 = true:=by kernel_rfl
theorem l324 : resQ (a0a CC (T0 Q324) 5000 a1t a324 []) v324 = true:=by kernel_rfl
theorem l325 : resQ (a0a CC (T0 Q325) 5000 a0c a325 []) v325 = true:=by kernel_rfl
theorem l326 : resQ (a0a CC (T0 Q326) 5000 a0h a326 []) v326 = true:=by kernel_rfl
theorem l327 : resQ (a0a CC (T0 Q327) 5000 a1y a327 []) v327 = true:=by kernel_rfl
theorem l328 : resQ (a0a CC (T0 Q328) 5000 a0c a328 []) v328 = true:=by kernel_rfl
theorem l329 : resQ (a0a CC (T0 Q329) 5000 a0c a329 []) v329 = true:=by kernel_rfl
theorem l330 : resQ (a0a CC (T0 Q330) 5000 a0f a330 []) v330 = true:=by kernel_rfl
theorem l331 : resQ (a0a CC (T0 Q331) 5000 a1j a331 []) v331 = true:=by kernel_rfl
theorem l332 : resQ (a0a CC (T0 Q332) 5000 a0c a332 []) v332 = true:=by kernel_rfl
theorem l333 : resQ (a0a CC (T0 Q333) 5000 a0f a333 []) v333 = true:=by kernel_rfl
theorem l334 : resQ (a0a CC (T0 Q334) 5000 a2d a334 []) v334 = true:=by kernel_rfl
theorem l335 : resQ (a0a CC (T0 Q335) 5000 a3n a335 []) v335 = true:=by kernel_rfl
theorem l336 : resQ (a0a CC (T0 Q336) 5000 a2v a336 []) v336 = true:=by kernel_rfl
theorem l337 : resQ (a0a CC (T0 Q337) 5000 a0l a337 []) v337 = true:=by kernel_rfl
end Go.Proofs.YtomedkaiefgbeaaGreatDoor
