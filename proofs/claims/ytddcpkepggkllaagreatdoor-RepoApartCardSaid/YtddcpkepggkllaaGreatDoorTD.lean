/- Contracts. No conditions. -/
import Derived.Test.YtddcpkepggkllaaGreatDoorTC
import Derived.KernelRfl
set_option linter.unusedVariables false
set_option linter.unusedSimpArgs false
set_option linter.defProp false
namespace Go.Proofs.YtddcpkepggkllaaGreatDoor
open Go.Ev
set_option maxRecDepth 1000000
def l9:nI (ja CC (T0 Q9) 5000 jk a9 []) v9=true:=by kernel_rfl
def l10:nI (ja CC (T0 Q10) 5000 zk a10 []) v10=true:=by kernel_rfl
def l11:nI (ja CC (T0 Q11) 5000 OB a11 []) v11=true:=by kernel_rfl
def l12:nI (ja CC (T0 Q12) 5000 Dk a12 []) v12=true:=by kernel_rfl
def l13:nI (ja CC (T0 Q13) 5000 jk a13 []) v13=true:=by kernel_rfl
def l14:nI (ja CC (T0 Q14) 5000 zk a14 []) v14=true:=by kernel_rfl
def l15:nI (ja CC (T0 Q15) 5000 Ui a15 []) v15=true:=by kernel_rfl
def l16:nI (ja CC (T0 Q16) 5000 zN a16 []) v16=true:=by kernel_rfl
def l17:nI (ja CC (T0 Q17) 5000 jG a17 []) v17=true:=by kernel_rfl
def l18:nI (ja CC (T0 Q18) 5000 jG a18 []) v18=true:=by kernel_rfl
def l19:nI (ja CC (T0 Q19) 5000 jG a19 []) v19=true:=by kernel_rfl
end Go.Proofs.YtddcpkepggkllaaGreatDoor
