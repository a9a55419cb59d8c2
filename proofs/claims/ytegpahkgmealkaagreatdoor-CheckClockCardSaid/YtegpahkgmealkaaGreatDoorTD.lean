/- Contracts of functions over this translation. No conditions. -/
import Derived.Test.YtegpahkgmealkaaGreatDoorTC
import Derived.KernelRfl
set_option linter.unusedVariables false
set_option linter.unusedSimpArgs false
namespace Go.Proofs.YtegpahkgmealkaaGreatDoor
open Go.Ev
set_option maxRecDepth 1000000
theorem l25:fF (bY CC (T0 Q25) 5000 bg a25 []) v25=true:=by kernel_rfl
theorem l26:fF (bY CC (T0 Q26) 5000 bg a26 []) v26=true:=by kernel_rfl
theorem l27:fF (bY CC (T0 Q27) 5000 bg a27 []) v27=true:=by kernel_rfl
theorem l28:fF (bY CC (T0 Q28) 5000 bg a28 []) v28=true:=by kernel_rfl
theorem l29:fF (bY CC (T0 Q29) 5000 bg a29 []) v29=true:=by kernel_rfl
theorem l30:fF (bY CC (T0 Q30) 5000 fK a30 []) v30=true:=by kernel_rfl
theorem l31:fF (bY CC (T0 Q31) 5000 ql a31 []) v31=true:=by kernel_rfl
theorem l32:fF (bY CC (T0 Q32) 5000 RQ a32 []) v32=true:=by kernel_rfl
theorem l33:fF (bY CC (T0 Q33) 5000 aet a33 []) v33=true:=by kernel_rfl
theorem l34:fF (bY CC (T0 Q34) 5000 vF a34 []) v34=true:=by kernel_rfl
theorem l35:fF (bY CC (T0 Q35) 5000 mQ a35 []) v35=true:=by kernel_rfl
theorem l36:fF (bY CC (T0 Q36) 5000 dR a36 []) v36=true:=by kernel_rfl
theorem l37:fF (bY CC (T0 Q37) 5000 bg a37 []) v37=true:=by kernel_rfl
theorem l38:fF (bY CC (T0 Q38) 5000 bg a38 []) v38=true:=by kernel_rfl
theorem l39:fF (bY CC (T0 Q39) 5000 bg a39 []) v39=true:=by kernel_rfl
theorem l40:fF (bY CC (T0 Q40) 5000 bg a40 []) v40=true:=by kernel_rfl
theorem l41:fF (bY CC (T0 Q41) 5000 bg a41 []) v41=true:=by kernel_rfl
theorem l42:fF (bY CC (T0 Q42) 5000 bg a42 []) v42=true:=by kernel_rfl
theorem l43:fF (bY CC (T0 Q43) 5000 bg a43 []) v43=true:=by kernel_rfl
end Go.Proofs.YtegpahkgmealkaaGreatDoor
