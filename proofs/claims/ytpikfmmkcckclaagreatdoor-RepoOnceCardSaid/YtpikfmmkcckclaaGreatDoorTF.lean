/- Contracts. No conditions. -/
import Derived.Test.YtpikfmmkcckclaaGreatDoorTC
import Derived.KernelRfl
set_option linter.unusedVariables false
set_option linter.unusedSimpArgs false
set_option linter.defProp false
namespace Go.Proofs.YtpikfmmkcckclaaGreatDoor
open Go.Ev
set_option maxRecDepth 1000000
def l29:lI (iC CC (T0 Q29) 5000 iT a29 []) v29=true:=by kernel_rfl
def l30:lI (iC CC (T0 Q30) 5000 iD a30 []) v30=true:=by kernel_rfl
def l31:lI (iC CC (T0 Q31) 5000 vw a31 []) v31=true:=by kernel_rfl
def l32:lI (iC CC (T0 Q32) 5000 vz a32 []) v32=true:=by kernel_rfl
def l33:lI (iC CC (T0 Q33) 5000 iT a33 []) v33=true:=by kernel_rfl
def l34:lI (iC CC (T0 Q34) 5000 iT a34 []) v34=true:=by kernel_rfl
def l35:lI (iC CC (T0 Q35) 5000 iD a35 []) v35=true:=by kernel_rfl
def l36:lI (iC CC (T0 Q36) 5000 vw a36 []) v36=true:=by kernel_rfl
def l37:lI (iC CC (T0 Q37) 5000 Nb a37 []) v37=true:=by kernel_rfl
end Go.Proofs.YtpikfmmkcckclaaGreatDoor
