/- Contracts. No conditions. -/
import Derived.Test.YtaaomenfchndjaaGreatDoorTC
set_option linter.unusedVariables false
set_option linter.unusedSimpArgs false
set_option linter.defProp false
namespace Go.Proofs.YtaaomenfchndjaaGreatDoor
open Bool renaming true→eT
open Go.Ev
set_option maxRecDepth 1000000
def l62:fG (dA CC (T0 Q62) 5000 jE a62 []) v62=eT:=by kernel_rfl
def l63:fG (dA CC (T0 Q63) 5000 xu a63 []) v63=eT:=by kernel_rfl
def l64:fG (dA CC (T0 Q64) 5000 aa6 a64 []) v64=eT:=by kernel_rfl
def l65:fG (dA CC (T0 Q65) 5000 qc a65 []) v65=eT:=by kernel_rfl
def l66:fG (dA CC (T0 Q66) 5000 BG a66 []) v66=eT:=by kernel_rfl
def l67:fG (dA CC (T0 Q67) 5000 uw a67 []) v67=eT:=by kernel_rfl
def l68:fG (dA CC (T0 Q68) 5000 jM a68 []) v68=eT:=by kernel_rfl
def l69:fG (dA CC (T0 Q69) 5000 sV a69 []) v69=eT:=by kernel_rfl
def l70:fG (dA CC (T0 Q70) 5000 KA a70 []) v70=eT:=by kernel_rfl
def l71:fG (dA CC (T0 Q71) 5000 jE a71 []) v71=eT:=by kernel_rfl
def l72:fG (dA CC (T0 Q72) 5000 xu a72 []) v72=eT:=by kernel_rfl
def l73:fG (dA CC (T0 Q73) 5000 qc a73 []) v73=eT:=by kernel_rfl
def l74:fG (dA CC (T0 Q74) 5000 BG a74 []) v74=eT:=by kernel_rfl
def l75:fG (dA CC (T0 Q75) 5000 uw a75 []) v75=eT:=by kernel_rfl
def l76:fG (dA CC (T0 Q76) 5000 jM a76 []) v76=eT:=by kernel_rfl
def l77:fG (dA CC (T0 Q77) 5000 jE a77 []) v77=eT:=by kernel_rfl
def l78:fG (dA CC (T0 Q78) 5000 xu a78 []) v78=eT:=by kernel_rfl
end Go.Proofs.YtaaomenfchndjaaGreatDoor
