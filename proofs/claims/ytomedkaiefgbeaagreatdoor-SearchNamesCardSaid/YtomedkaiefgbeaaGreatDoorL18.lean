/- Answers of the evaluator, by the kernel. No conditions. -/
import Derived.Test.YtomedkaiefgbeaaGreatDoorTM
import Derived.KernelRfl
set_option linter.unusedVariables false
set_option linter.unusedSimpArgs false
namespace Go.Proofs.YtomedkaiefgbeaaGreatDoor
open Go.Ev
set_option maxRecDepth 1000000
theorem l384 : resQ (a0a CC (T0 Q384) 5000 a2v a384 []) v384 = true:=by kernel_rfl
theorem l385 : resQ (a0a CC (T0 Q385) 5000 a0h a385 []) v385 = true:=by kernel_rfl
theorem l386 : resQ (a0a CC (T0 Q386) 5000 a1p a386 []) v386 = true:=by kernel_rfl
theorem l387 : resQ (a0a CC (T0 Q387) 5000 a0c a387 []) v387 = true:=by kernel_rfl
theorem l388 : resQ (a0a CC (T0 Q388) 5000 a0c a388 []) v388 = true:=by kernel_rfl
theorem l389 : resQ (a0a CC (T0 Q389) 5000 a0f a389 []) v389 = true:=by kernel_rfl
theorem l390 : resQ (a0a CC (T0 Q390) 5000 a1j a390 []) v390 = true:=by kernel_rfl
theorem l391 : resQ (a0a CC (T0 Q391) 5000 a0c a391 []) v391 = true:=by kernel_rfl
theorem l392 : resQ (a0a CC (T0 Q392) 5000 a0f a392 []) v392 = true:=by kernel_rfl
theorem l393 : resQ (a0a CC (T0 Q393) 5000 a0d a393 []) v393 = true:=by kernel_rfl
theorem l394 : resQ (a0a CC (T0 Q394) 5000 a0q a394 []) v394 = true:=by kernel_rfl
theorem l395 : resQ (a0a CC (T0 Q395) 5000 a0h a395 []) v395 = true:=by kernel_rfl
theorem l396 : resQ (a0a CC (T0 Q396) 5000 a0h a396 []) v396 = true:=by kernel_rfl
theorem l397 : resQ (a0a CC (T0 Q397) 5000 a0z a397 []) v397 = true:=by kernel_rfl
theorem l398 : resQ (a0a CC (T0 Q398) 5000 a1b a398 []) v398 = true:=by kernel_rfl
theorem l399 : resQ (a0a CC (T0 Q399) 5000 a1b a399 []) v399 = true:=by kernel_rfl
theorem l400 : resQ (a0a CC (T0 Q400) 5000 a1b a400 []) v400 = true:=by kernel_rfl
theorem l401 : resQ (a0a CC (T0 Q401) 5000 a3s a401 []) v401 = true:=by kernel_rfl
end Go.Proofs.YtomedkaiefgbeaaGreatDoor
