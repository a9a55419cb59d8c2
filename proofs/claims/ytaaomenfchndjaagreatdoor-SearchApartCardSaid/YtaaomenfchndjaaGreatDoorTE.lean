/- Contracts. No conditions. -/
import Derived.Test.YtaaomenfchndjaaGreatDoorTC
set_option linter.unusedVariables false
set_option linter.unusedSimpArgs false
set_option linter.defProp false
namespace Go.Proofs.YtaaomenfchndjaaGreatDoor
open Bool renaming true→eT
open Go.Ev
set_option maxRecDepth 1000000
def l29:fG (dA CC (T0 Q29) 5000 Fg a29 []) v29=eT:=by kernel_rfl
def l30:fG (dA CC (T0 Q30) 5000 Ub a30 []) v30=eT:=by kernel_rfl
def l31:fG (dA CC (T0 Q31) 5000 fM a31 []) v31=eT:=by kernel_rfl
def l32:fG (dA CC (T0 Q32) 5000 BC a32 []) v32=eT:=by kernel_rfl
def l33:fG (dA CC (T0 Q33) 5000 kW a33 []) v33=eT:=by kernel_rfl
def l34:fG (dA CC (T0 Q34) 5000 fM a34 []) v34=eT:=by kernel_rfl
def l35:fG (dA CC (T0 Q35) 5000 Fg a35 []) v35=eT:=by kernel_rfl
def l36:fG (dA CC (T0 Q36) 5000 ag2 a36 []) v36=eT:=by kernel_rfl
def l37:fG (dA CC (T0 Q37) 5000 kW a37 []) v37=eT:=by kernel_rfl
def l38:fG (dA CC (T0 Q38) 5000 fM a38 []) v38=eT:=by kernel_rfl
def l39:fG (dA CC (T0 Q39) 5000 BC a39 []) v39=eT:=by kernel_rfl
def l40:fG (dA CC (T0 Q40) 5000 kW a40 []) v40=eT:=by kernel_rfl
def l41:fG (dA CC (T0 Q41) 5000 UV a41 []) v41=eT:=by kernel_rfl
def l42:fG (dA CC (T0 Q42) 5000 fM a42 []) v42=eT:=by kernel_rfl
def l43:fG (dA CC (T0 Q43) 5000 PZ a43 []) v43=eT:=by kernel_rfl
end Go.Proofs.YtaaomenfchndjaaGreatDoor
