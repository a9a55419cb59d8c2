/- Contracts. No conditions. -/
import Derived.Test.YtaaomenfchndjaaGreatDoorTC
set_option linter.unusedVariables false
set_option linter.unusedSimpArgs false
set_option linter.defProp false
namespace Go.Proofs.YtaaomenfchndjaaGreatDoor
open Bool renaming true→eT
open Go.Ev
set_option maxRecDepth 1000000
def l12:fG (dA CC (T0 Q12) 5000 fM a12 []) v12=eT:=by kernel_rfl
def l13:fG (dA CC (T0 Q13) 5000 zW a13 []) v13=eT:=by kernel_rfl
def l14:fG (dA CC (T0 Q14) 5000 kW a14 []) v14=eT:=by kernel_rfl
def l15:fG (dA CC (T0 Q15) 5000 xQ a15 []) v15=eT:=by kernel_rfl
def l16:fG (dA CC (T0 Q16) 5000 Eg a16 []) v16=eT:=by kernel_rfl
def l17:fG (dA CC (T0 Q17) 5000 Ub a17 []) v17=eT:=by kernel_rfl
def l18:fG (dA CC (T0 Q18) 5000 kW a18 []) v18=eT:=by kernel_rfl
def l19:fG (dA CC (T0 Q19) 5000 fM a19 []) v19=eT:=by kernel_rfl
def l20:fG (dA CC (T0 Q20) 5000 BC a20 []) v20=eT:=by kernel_rfl
def l21:fG (dA CC (T0 Q21) 5000 kW a21 []) v21=eT:=by kernel_rfl
def l22:fG (dA CC (T0 Q22) 5000 fM a22 []) v22=eT:=by kernel_rfl
def l23:fG (dA CC (T0 Q23) 5000 Fg a23 []) v23=eT:=by kernel_rfl
def l24:fG (dA CC (T0 Q24) 5000 xQ a24 []) v24=eT:=by kernel_rfl
def l25:fG (dA CC (T0 Q25) 5000 fM a25 []) v25=eT:=by kernel_rfl
def l26:fG (dA CC (T0 Q26) 5000 BC a26 []) v26=eT:=by kernel_rfl
def l27:fG (dA CC (T0 Q27) 5000 UV a27 []) v27=eT:=by kernel_rfl
def l28:fG (dA CC (T0 Q28) 5000 fM a28 []) v28=eT:=by kernel_rfl
end Go.Proofs.YtaaomenfchndjaaGreatDoor
