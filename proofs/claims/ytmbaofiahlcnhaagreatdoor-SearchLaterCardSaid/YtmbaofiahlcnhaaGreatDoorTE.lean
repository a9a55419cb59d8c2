/- Contracts. No conditions. -/
import Derived.Test.YtmbaofiahlcnhaaGreatDoorTC
import Derived.KernelRfl
set_option linter.unusedVariables false
set_option linter.unusedSimpArgs false
set_option linter.defProp false
namespace Go.Proofs.YtmbaofiahlcnhaaGreatDoor
open Bool renaming true→eT
open Go.Ev
set_option maxRecDepth 1000000
def l29:dW (bM CC (T0 Q29) 5000 Du a29 []) v29=eT:=by kernel_rfl
def l30:dW (bM CC (T0 Q30) 5000 Qk a30 []) v30=eT:=by kernel_rfl
def l31:dW (bM CC (T0 Q31) 5000 dZ a31 []) v31=eT:=by kernel_rfl
def l32:dW (bM CC (T0 Q32) 5000 zi a32 []) v32=eT:=by kernel_rfl
def l33:dW (bM CC (T0 Q33) 5000 kE a33 []) v33=eT:=by kernel_rfl
def l34:dW (bM CC (T0 Q34) 5000 dZ a34 []) v34=eT:=by kernel_rfl
def l35:dW (bM CC (T0 Q35) 5000 Du a35 []) v35=eT:=by kernel_rfl
def l36:dW (bM CC (T0 Q36) 5000 adP a36 []) v36=eT:=by kernel_rfl
def l37:dW (bM CC (T0 Q37) 5000 kE a37 []) v37=eT:=by kernel_rfl
def l38:dW (bM CC (T0 Q38) 5000 dZ a38 []) v38=eT:=by kernel_rfl
def l39:dW (bM CC (T0 Q39) 5000 zi a39 []) v39=eT:=by kernel_rfl
def l40:dW (bM CC (T0 Q40) 5000 kE a40 []) v40=eT:=by kernel_rfl
def l41:dW (bM CC (T0 Q41) 5000 QZ a41 []) v41=eT:=by kernel_rfl
def l42:dW (bM CC (T0 Q42) 5000 dZ a42 []) v42=eT:=by kernel_rfl
def l43:dW (bM CC (T0 Q43) 5000 Nq a43 []) v43=eT:=by kernel_rfl
end Go.Proofs.YtmbaofiahlcnhaaGreatDoor
