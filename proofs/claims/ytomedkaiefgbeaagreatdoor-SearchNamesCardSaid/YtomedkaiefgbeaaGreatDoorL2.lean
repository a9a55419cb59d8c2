/- Answers of the evaluator, by the kernel. No conditions. -/
import Derived.Test.YtomedkaiefgbeaaGreatDoorTM
import Derived.KernelRfl
set_option linter.unusedVariables false
set_option linter.unusedSimpArgs false
namespace Go.Proofs.YtomedkaiefgbeaaGreatDoor
open Go.Ev
set_option maxRecDepth 1000000
theorem l60 : resQ (a0a CC (T0 Q60) 5000 a1b a60 []) v60 = true:=by kernel_rfl
theorem l61 : resQ (a0a CC (T0 Q61) 5000 a1b a61 []) v61 = true:=by kernel_rfl
theorem l62 : resQ (a0a CC (T0 Q62) 5000 a1b a62 []) v62 = true:=by kernel_rfl
theorem l63 : resQ (a0a CC (T0 Q63) 5000 a3s a63 []) v63 = true:=by kernel_rfl
theorem l64 : resQ (a0a CC (T0 Q64) 5000 a0q a64 []) v64 = true:=by kernel_rfl
theorem l65 : resQ (a0a CC (T0 Q65) 5000 a0h a65 []) v65 = true:=by kernel_rfl
theorem l66 : resQ (a0a CC (T0 Q66) 5000 a0h a66 []) v66 = true:=by kernel_rfl
theorem l67 : resQ (a0a CC (T0 Q67) 5000 a0z a67 []) v67 = true:=by kernel_rfl
theorem l68 : resQ (a0a CC (T0 Q68) 5000 a2n a68 []) v68 = true:=by kernel_rfl
theorem l69 : resQ (a0a CC (T0 Q69) 5000 a2n a69 []) v69 = true:=by kernel_rfl
theorem l70 : resQ (a0a CC (T0 Q70) 5000 a4s a70 []) v70 = true:=by kernel_rfl
theorem l71 : resQ (a0a CC (T0 Q71) 5000 a3y a71 []) v71 = true:=by kernel_rfl
theorem l72 : resQ (a0a CC (T0 Q72) 5000 a0q a72 []) v72 = true:=by kernel_rfl
theorem l73 : resQ (a0a CC (T0 Q73) 5000 a0z a73 []) v73 = true:=by kernel_rfl
theorem l74 : resQ (a0a CC (T0 Q74) 5000 a4s a74 []) v74 = true:=by kernel_rfl
theorem l75 : resQ (a0a CC (T0 Q75) 5000 a5a a75 []) v75 = true:=by kernel_rfl
theorem l76 : resQ (a0a CC (T0 Q76) 5000 a0q a76 []) v76 = true:=by kernel_rfl
theorem l77 : resQ (a0a CC (T0 Q77) 5000 a0z a77 []) v77 = true:=by kernel_rfl
theorem l78 : resQ (a0a CC (T0 Q78) 5000 c8r a78 []) v78 = true:=by kernel_rfl
end Go.Proofs.YtomedkaiefgbeaaGreatDoor
