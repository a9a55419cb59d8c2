/- Contracts. No conditions. -/
import Derived.Test.YtmbaofiahlcnhaaGreatDoorTC
import Derived.KernelRfl
set_option linter.unusedVariables false
set_option linter.unusedSimpArgs false
set_option linter.defProp false
namespace Go.Proofs.YtmbaofiahlcnhaaGreatDoor
open Bool renaming true→eT
open Go.Ev
set_option maxRecDepth 1000000
def l12:dW (bM CC (T0 Q12) 5000 dZ a12 []) v12=eT:=by kernel_rfl
def l13:dW (bM CC (T0 Q13) 5000 xC a13 []) v13=eT:=by kernel_rfl
def l14:dW (bM CC (T0 Q14) 5000 kE a14 []) v14=eT:=by kernel_rfl
def l15:dW (bM CC (T0 Q15) 5000 Il a15 []) v15=eT:=by kernel_rfl
def l16:dW (bM CC (T0 Q16) 5000 BM a16 []) v16=eT:=by kernel_rfl
def l17:dW (bM CC (T0 Q17) 5000 Qk a17 []) v17=eT:=by kernel_rfl
def l18:dW (bM CC (T0 Q18) 5000 kE a18 []) v18=eT:=by kernel_rfl
def l19:dW (bM CC (T0 Q19) 5000 dZ a19 []) v19=eT:=by kernel_rfl
def l20:dW (bM CC (T0 Q20) 5000 zi a20 []) v20=eT:=by kernel_rfl
def l21:dW (bM CC (T0 Q21) 5000 kE a21 []) v21=eT:=by kernel_rfl
def l22:dW (bM CC (T0 Q22) 5000 dZ a22 []) v22=eT:=by kernel_rfl
def l23:dW (bM CC (T0 Q23) 5000 Du a23 []) v23=eT:=by kernel_rfl
def l24:dW (bM CC (T0 Q24) 5000 Il a24 []) v24=eT:=by kernel_rfl
def l25:dW (bM CC (T0 Q25) 5000 dZ a25 []) v25=eT:=by kernel_rfl
def l26:dW (bM CC (T0 Q26) 5000 zi a26 []) v26=eT:=by kernel_rfl
def l27:dW (bM CC (T0 Q27) 5000 QZ a27 []) v27=eT:=by kernel_rfl
def l28:dW (bM CC (T0 Q28) 5000 dZ a28 []) v28=eT:=by kernel_rfl
end Go.Proofs.YtmbaofiahlcnhaaGreatDoor
