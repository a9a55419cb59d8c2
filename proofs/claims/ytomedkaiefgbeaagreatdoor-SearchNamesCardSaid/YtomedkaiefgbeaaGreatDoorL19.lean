/- Answers of the evaluator, by the kernel. No conditions. -/
import Derived.Test.YtomedkaiefgbeaaGreatDoorTM
import Derived.KernelRfl
set_option linter.unusedVariables false
set_option linter.unusedSimpArgs false
namespace Go.Proofs.YtomedkaiefgbeaaGreatDoor
open Go.Ev
set_option maxRecDepth 1000000
theorem l402 : resQ (a0a CC (T0 Q402) 5000 a0q a402 []) v402 = true:=by kernel_rfl
theorem l403 : resQ (a0a CC (T0 Q403) 5000 a0h a403 []) v403 = true:=by kernel_rfl
theorem l404 : resQ (a0a CC (T0 Q404) 5000 a0h a404 []) v404 = true:=by kernel_rfl
theorem l405 : resQ (a0a CC (T0 Q405) 5000 a0z a405 []) v405 = true:=by kernel_rfl
theorem l406 : resQ (a0a CC (T0 Q406) 5000 a2n a406 []) v406 = true:=by kernel_rfl
theorem l407 : resQ (a0a CC (T0 Q407) 5000 a4s a407 []) v407 = true:=by kernel_rfl
theorem l408 : resQ (a0a CC (T0 Q408) 5000 a3y a408 []) v408 = true:=by kernel_rfl
theorem l409 : resQ (a0a CC (T0 Q409) 5000 a0q a409 []) v409 = true:=by kernel_rfl
theorem l410 : resQ (a0a CC (T0 Q410) 5000 a0h a410 []) v410 = true:=by kernel_rfl
theorem l411 : resQ (a0a CC (T0 Q411) 5000 a1e a411 []) v411 = true:=by kernel_rfl
theorem l412 : resQ (a0a CC (T0 Q412) 5000 a0z a412 []) v412 = true:=by kernel_rfl
theorem l413 : resQ (a0a CC (T0 Q413) 5000 a2n a413 []) v413 = true:=by kernel_rfl
theorem l414 : resQ (a0a CC (T0 Q414) 5000 c6b a414 []) v414 = true:=by kernel_rfl
theorem l415 : resQ (a0a CC (T0 Q415) 5000 a4s a415 []) v415 = true:=by kernel_rfl
end Go.Proofs.YtomedkaiefgbeaaGreatDoor
