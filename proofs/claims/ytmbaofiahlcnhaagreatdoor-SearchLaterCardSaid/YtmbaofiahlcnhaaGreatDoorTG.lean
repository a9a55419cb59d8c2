/- Contracts. No conditions. -/
import Derived.Test.YtmbaofiahlcnhaaGreatDoorTC
import Derived.KernelRfl
set_option linter.unusedVariables false
set_option linter.unusedSimpArgs false
set_option linter.defProp false
namespace Go.Proofs.YtmbaofiahlcnhaaGreatDoor
open Bool renaming true→eT
open Go.Ev
set_option maxRecDepth 1000000
def l62:dW (bM CC (T0 Q62) 5000 iL a62 []) v62=eT:=by kernel_rfl
def l63:dW (bM CC (T0 Q63) 5000 uJ a63 []) v63=eT:=by kernel_rfl
def l64:dW (bM CC (T0 Q64) 5000 X5 a64 []) v64=eT:=by kernel_rfl
def l65:dW (bM CC (T0 Q65) 5000 yD a65 []) v65=eT:=by kernel_rfl
def l66:dW (bM CC (T0 Q66) 5000 zq a66 []) v66=eT:=by kernel_rfl
def l67:dW (bM CC (T0 Q67) 5000 qN a67 []) v67=eT:=by kernel_rfl
def l68:dW (bM CC (T0 Q68) 5000 jC a68 []) v68=eT:=by kernel_rfl
def l69:dW (bM CC (T0 Q69) 5000 qh a69 []) v69=eT:=by kernel_rfl
def l70:dW (bM CC (T0 Q70) 5000 Ik a70 []) v70=eT:=by kernel_rfl
def l71:dW (bM CC (T0 Q71) 5000 iL a71 []) v71=eT:=by kernel_rfl
def l72:dW (bM CC (T0 Q72) 5000 uJ a72 []) v72=eT:=by kernel_rfl
def l73:dW (bM CC (T0 Q73) 5000 yD a73 []) v73=eT:=by kernel_rfl
def l74:dW (bM CC (T0 Q74) 5000 zq a74 []) v74=eT:=by kernel_rfl
def l75:dW (bM CC (T0 Q75) 5000 qN a75 []) v75=eT:=by kernel_rfl
def l76:dW (bM CC (T0 Q76) 5000 jC a76 []) v76=eT:=by kernel_rfl
def l77:dW (bM CC (T0 Q77) 5000 iL a77 []) v77=eT:=by kernel_rfl
def l78:dW (bM CC (T0 Q78) 5000 uJ a78 []) v78=eT:=by kernel_rfl
end Go.Proofs.YtmbaofiahlcnhaaGreatDoor
