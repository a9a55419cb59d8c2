/- Contracts. No conditions. -/
import Derived.Test.YtpikfmmkcckclaaGreatDoorTC
import Derived.KernelRfl
set_option linter.unusedVariables false
set_option linter.unusedSimpArgs false
set_option linter.defProp false
namespace Go.Proofs.YtpikfmmkcckclaaGreatDoor
open Go.Ev
set_option maxRecDepth 1000000
def l9:lI (iC CC (T0 Q9) 5000 iE a9 []) v9=true:=by kernel_rfl
def l10:lI (iC CC (T0 Q10) 5000 xA a10 []) v10=true:=by kernel_rfl
def l11:lI (iC CC (T0 Q11) 5000 Nb a11 []) v11=true:=by kernel_rfl
def l12:lI (iC CC (T0 Q12) 5000 A8 a12 []) v12=true:=by kernel_rfl
def l13:lI (iC CC (T0 Q13) 5000 iE a13 []) v13=true:=by kernel_rfl
def l14:lI (iC CC (T0 Q14) 5000 xA a14 []) v14=true:=by kernel_rfl
def l15:lI (iC CC (T0 Q15) 5000 SL a15 []) v15=true:=by kernel_rfl
def l16:lI (iC CC (T0 Q16) 5000 xR a16 []) v16=true:=by kernel_rfl
def l17:lI (iC CC (T0 Q17) 5000 iT a17 []) v17=true:=by kernel_rfl
def l18:lI (iC CC (T0 Q18) 5000 iT a18 []) v18=true:=by kernel_rfl
def l19:lI (iC CC (T0 Q19) 5000 iT a19 []) v19=true:=by kernel_rfl
end Go.Proofs.YtpikfmmkcckclaaGreatDoor
