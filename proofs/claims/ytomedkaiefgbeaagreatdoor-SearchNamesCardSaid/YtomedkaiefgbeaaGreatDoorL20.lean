/- Answers of the evaluator, by the kernel. No conditions. -/
import Derived.Test.YtomedkaiefgbeaaGreatDoorTM
import Derived.KernelRfl
set_option linter.unusedVariables false
set_option linter.unusedSimpArgs false
namespace Go.Proofs.YtomedkaiefgbeaaGreatDoor
open Go.Ev
set_option maxRecDepth 1000000
theorem l416 : resQ (a0a CC (T0 Q416) 5000 a0e a416 []) v416 = true:=by kernel_rfl
theorem l417 : resQ (a0a CC (T0 Q417) 5000 a0e a417 []) v417 = true:=by kernel_rfl
theorem l418 : resQ (a0a CC (T0 Q418) 5000 a1p a418 []) v418 = true:=by kernel_rfl
theorem l419 : resQ (a0a CC (T0 Q419) 5000 a5a a419 []) v419 = true:=by kernel_rfl
theorem l420 : resQ (a0a CC (T0 Q420) 5000 a1j a420 []) v420 = true:=by kernel_rfl
theorem l421 : resQ (a0a CC (T0 Q421) 5000 a0c a421 []) v421 = true:=by kernel_rfl
theorem l422 : resQ (a0a CC (T0 Q422) 5000 a2z a422 []) v422 = true:=by kernel_rfl
theorem l423 : resQ (a0a CC (T0 Q423) 5000 a0q a423 []) v423 = true:=by kernel_rfl
theorem l424 : resQ (a0a CC (T0 Q424) 5000 a0z a424 []) v424 = true:=by kernel_rfl
theorem l425 : resQ (a0a CC (T0 Q425) 5000 a3s a425 []) v425 = true:=by kernel_rfl
theorem l426 : resQ (a0a CC (T0 Q426) 5000 a5a a426 []) v426 = true:=by kernel_rfl
theorem l427 : resQ (a0a CC (T0 Q427) 5000 a0e a427 []) v427 = true:=by kernel_rfl
theorem l428 : resQ (a0a CC (T0 Q428) 5000 a0e a428 []) v428 = true:=by kernel_rfl
theorem l429 : resQ (a0a CC (T0 Q429) 5000 a0e a429 []) v429 = true:=by kernel_rfl
theorem l430 : resQ (a0a CC (T0 Q430) 5000 a2p a430 []) v430 = true:=by kernel_rfl
end Go.Proofs.YtomedkaiefgbeaaGreatDoor
