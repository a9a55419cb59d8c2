/- Contracts. No conditions. -/
import Derived.Test.YtddcpkepggkllaaGreatDoorTC
import Derived.KernelRfl
set_option linter.unusedVariables false
set_option linter.unusedSimpArgs false
set_option linter.defProp false
namespace Go.Proofs.YtddcpkepggkllaaGreatDoor
open Go.Ev
set_option maxRecDepth 1000000
def l20:nI (ja CC (T0 Q20) 5000 jG a20 []) v20=true:=by kernel_rfl
def l21:nI (ja CC (T0 Q21) 5000 jG a21 []) v21=true:=by kernel_rfl
def l22:nI (ja CC (T0 Q22) 5000 jG a22 []) v22=true:=by kernel_rfl
def l23:nI (ja CC (T0 Q23) 5000 jc a23 []) v23=true:=by kernel_rfl
def l24:nI (ja CC (T0 Q24) 5000 xu a24 []) v24=true:=by kernel_rfl
def l25:nI (ja CC (T0 Q25) 5000 afW a25 []) v25=true:=by kernel_rfl
def l26:nI (ja CC (T0 Q26) 5000 X0 a26 []) v26=true:=by kernel_rfl
def l27:nI (ja CC (T0 Q27) 5000 Ic a27 []) v27=true:=by kernel_rfl
def l28:nI (ja CC (T0 Q28) 5000 jG a28 []) v28=true:=by kernel_rfl
end Go.Proofs.YtddcpkepggkllaaGreatDoor
