/- Contracts. No conditions. -/
import Derived.Test.YtaaomenfchndjaaGreatDoorTC
set_option linter.unusedVariables false
set_option linter.unusedSimpArgs false
set_option linter.defProp false
namespace Go.Proofs.YtaaomenfchndjaaGreatDoor
open Bool renaming true→eT
open Go.Ev
set_option maxRecDepth 1000000
def l44:fG (dA CC (T0 Q44) 5000 Dj a44 []) v44=eT:=by kernel_rfl
def l45:fG (dA CC (T0 Q45) 5000 jE a45 []) v45=eT:=by kernel_rfl
def l46:fG (dA CC (T0 Q46) 5000 xu a46 []) v46=eT:=by kernel_rfl
def l47:fG (dA CC (T0 Q47) 5000 anS a47 []) v47=eT:=by kernel_rfl
def l48:fG (dA CC (T0 Q48) 5000 MC a48 []) v48=eT:=by kernel_rfl
def l49:fG (dA CC (T0 Q49) 5000 BG a49 []) v49=eT:=by kernel_rfl
def l50:fG (dA CC (T0 Q50) 5000 aka a50 []) v50=eT:=by kernel_rfl
def l51:fG (dA CC (T0 Q51) 5000 Ea a51 []) v51=eT:=by kernel_rfl
def l52:fG (dA CC (T0 Q52) 5000 uw a52 []) v52=eT:=by kernel_rfl
def l53:fG (dA CC (T0 Q53) 5000 sV a53 []) v53=eT:=by kernel_rfl
def l54:fG (dA CC (T0 Q54) 5000 jE a54 []) v54=eT:=by kernel_rfl
def l55:fG (dA CC (T0 Q55) 5000 xu a55 []) v55=eT:=by kernel_rfl
def l56:fG (dA CC (T0 Q56) 5000 AC a56 []) v56=eT:=by kernel_rfl
def l57:fG (dA CC (T0 Q57) 5000 BG a57 []) v57=eT:=by kernel_rfl
def l58:fG (dA CC (T0 Q58) 5000 abB a58 []) v58=eT:=by kernel_rfl
def l59:fG (dA CC (T0 Q59) 5000 uw a59 []) v59=eT:=by kernel_rfl
def l60:fG (dA CC (T0 Q60) 5000 sV a60 []) v60=eT:=by kernel_rfl
def l61:fG (dA CC (T0 Q61) 5000 KA a61 []) v61=eT:=by kernel_rfl
end Go.Proofs.YtaaomenfchndjaaGreatDoor
