/- Contracts. No conditions. -/
import Derived.Test.YtpikfmmkcckclaaGreatDoorTC
import Derived.KernelRfl
set_option linter.unusedVariables false
set_option linter.unusedSimpArgs false
set_option linter.defProp false
namespace Go.Proofs.YtpikfmmkcckclaaGreatDoor
open Go.Ev
set_option maxRecDepth 1000000
def l20:lI (iC CC (T0 Q20) 5000 iT a20 []) v20=true:=by kernel_rfl
def l21:lI (iC CC (T0 Q21) 5000 iT a21 []) v21=true:=by kernel_rfl
def l22:lI (iC CC (T0 Q22) 5000 iT a22 []) v22=true:=by kernel_rfl
def l23:lI (iC CC (T0 Q23) 5000 iD a23 []) v23=true:=by kernel_rfl
def l24:lI (iC CC (T0 Q24) 5000 vw a24 []) v24=true:=by kernel_rfl
def l25:lI (iC CC (T0 Q25) 5000 aey a25 []) v25=true:=by kernel_rfl
def l26:lI (iC CC (T0 Q26) 5000 WO a26 []) v26=true:=by kernel_rfl
def l27:lI (iC CC (T0 Q27) 5000 F9 a27 []) v27=true:=by kernel_rfl
def l28:lI (iC CC (T0 Q28) 5000 iT a28 []) v28=true:=by kernel_rfl
end Go.Proofs.YtpikfmmkcckclaaGreatDoor
