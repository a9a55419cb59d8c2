/- Contracts. No conditions. -/
import Derived.Test.YtddcpkepggkllaaGreatDoorTC
import Derived.KernelRfl
set_option linter.unusedVariables false
set_option linter.unusedSimpArgs false
set_option linter.defProp false
namespace Go.Proofs.YtddcpkepggkllaaGreatDoor
open Go.Ev
set_option maxRecDepth 1000000
def l29:nI (ja CC (T0 Q29) 5000 jG a29 []) v29=true:=by kernel_rfl
def l30:nI (ja CC (T0 Q30) 5000 jc a30 []) v30=true:=by kernel_rfl
def l31:nI (ja CC (T0 Q31) 5000 xu a31 []) v31=true:=by kernel_rfl
def l32:nI (ja CC (T0 Q32) 5000 xw a32 []) v32=true:=by kernel_rfl
def l33:nI (ja CC (T0 Q33) 5000 jG a33 []) v33=true:=by kernel_rfl
def l34:nI (ja CC (T0 Q34) 5000 jG a34 []) v34=true:=by kernel_rfl
def l35:nI (ja CC (T0 Q35) 5000 jc a35 []) v35=true:=by kernel_rfl
def l36:nI (ja CC (T0 Q36) 5000 xu a36 []) v36=true:=by kernel_rfl
def l37:nI (ja CC (T0 Q37) 5000 OB a37 []) v37=true:=by kernel_rfl
end Go.Proofs.YtddcpkepggkllaaGreatDoor
