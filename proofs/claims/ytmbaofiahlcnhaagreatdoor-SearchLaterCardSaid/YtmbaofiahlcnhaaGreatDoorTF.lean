/- Contracts. No conditions. -/
import Derived.Test.YtmbaofiahlcnhaaGreatDoorTC
import Derived.KernelRfl
set_option linter.unusedVariables false
set_option linter.unusedSimpArgs false
set_option linter.defProp false
namespace Go.Proofs.YtmbaofiahlcnhaaGreatDoor
open Bool renaming true→eT
open Go.Ev
set_option maxRecDepth 1000000
def l44:dW (bM CC (T0 Q44) 5000 AC a44 []) v44=eT:=by kernel_rfl
def l45:dW (bM CC (T0 Q45) 5000 iL a45 []) v45=eT:=by kernel_rfl
def l46:dW (bM CC (T0 Q46) 5000 uJ a46 []) v46=eT:=by kernel_rfl
def l47:dW (bM CC (T0 Q47) 5000 al9 a47 []) v47=eT:=by kernel_rfl
def l48:dW (bM CC (T0 Q48) 5000 Jt a48 []) v48=eT:=by kernel_rfl
def l49:dW (bM CC (T0 Q49) 5000 zq a49 []) v49=eT:=by kernel_rfl
def l50:dW (bM CC (T0 Q50) 5000 ahK a50 []) v50=eT:=by kernel_rfl
def l51:dW (bM CC (T0 Q51) 5000 BI a51 []) v51=eT:=by kernel_rfl
def l52:dW (bM CC (T0 Q52) 5000 qN a52 []) v52=eT:=by kernel_rfl
def l53:dW (bM CC (T0 Q53) 5000 qh a53 []) v53=eT:=by kernel_rfl
def l54:dW (bM CC (T0 Q54) 5000 iL a54 []) v54=eT:=by kernel_rfl
def l55:dW (bM CC (T0 Q55) 5000 uJ a55 []) v55=eT:=by kernel_rfl
def l56:dW (bM CC (T0 Q56) 5000 yA a56 []) v56=eT:=by kernel_rfl
def l57:dW (bM CC (T0 Q57) 5000 zq a57 []) v57=eT:=by kernel_rfl
def l58:dW (bM CC (T0 Q58) 5000 ZC a58 []) v58=eT:=by kernel_rfl
def l59:dW (bM CC (T0 Q59) 5000 qN a59 []) v59=eT:=by kernel_rfl
def l60:dW (bM CC (T0 Q60) 5000 qh a60 []) v60=eT:=by kernel_rfl
def l61:dW (bM CC (T0 Q61) 5000 Ik a61 []) v61=eT:=by kernel_rfl
end Go.Proofs.YtmbaofiahlcnhaaGreatDoor
