/- Answers of the evaluator, by the kernel. No conditions. -/
import Derived.Test.YtomedkaiefgbeaaGreatDoorTM
import Derived.KernelRfl
set_option linter.unusedVariables false
set_option linter.unusedSimpArgs false
namespace Go.Proofs.YtomedkaiefgbeaaGreatDoor
open Go.Ev
set_option maxRecDepth 1000000
theorem l0 : resQ (a0a CC (T0 Q0) 5000 b0o a0 []) v0 = true:=by kernel_rfl
theorem l1 : resQ (a0a CC (T0 Q1) 5000 a0l a1 []) v1 = true:=by kernel_rfl
theorem l2 : resQ (a0a CC (T0 Q2) 5000 c4z a2 []) v2 = true:=by kernel_rfl
theorem l3 : resQ (a0a CC (T0 Q3) 5000 a0c a3 []) v3 = true:=by kernel_rfl
theorem l4 : resQ (a0a CC (T0 Q4) 5000 a0c a4 []) v4 = true:=by kernel_rfl
theorem l5 : resQ (a0a CC (T0 Q5) 5000 a0f a5 []) v5 = true:=by kernel_rfl
theorem l6 : resQ (a0a CC (T0 Q6) 5000 a1j a6 []) v6 = true:=by kernel_rfl
theorem l7 : resQ (a0a CC (T0 Q7) 5000 a0c a7 []) v7 = true:=by kernel_rfl
theorem l8 : resQ (a0a CC (T0 Q8) 5000 a0f a8 []) v8 = true:=by kernel_rfl
theorem l9 : resQ (a0a CC (T0 Q9) 5000 a0h a9 []) v9 = true:=by kernel_rfl
theorem l10 : resQ (a0a CC (T0 Q10) 5000 a1t a10 []) v10 = true:=by kernel_rfl
theorem l11 : resQ (a0a CC (T0 Q11) 5000 a0c a11 []) v11 = true:=by kernel_rfl
theorem l12 : resQ (a0a CC (T0 Q12) 5000 a0h a12 []) v12 = true:=by kernel_rfl
theorem l13 : resQ (a0a CC (T0 Q13) 5000 a1y a13 []) v13 = true:=by kernel_rfl
theorem l14 : resQ (a0a CC (T0 Q14) 5000 a0c a14 []) v14 = true:=by kernel_rfl
theorem l15 : resQ (a0a CC (T0 Q15) 5000 a0c a15 []) v15 = true:=by kernel_rfl
theorem l16 : resQ (a0a CC (T0 Q16) 5000 a0f a16 []) v16 = true:=by kernel_rfl
theorem l17 : resQ (a0a CC (T0 Q17) 5000 a1j a17 []) v17 = true:=by kernel_rfl
theorem l18 : resQ (a0a CC (T0 Q18) 5000 a0c a18 []) v18 = true:=by kernel_rfl
theorem l19 : resQ (a0a CC (T0 Q19) 5000 a0f a19 []) v19 = true:=by kernel_rfl
theorem l20 : resQ (a0a CC (T0 Q20) 5000 a2d a20 []) v20 = true:=by kernel_rfl
theorem l21 : resQ (a0a CC (T0 Q21) 5000 b1l a21 []) v21 = true:=by kernel_rfl
theorem l22 : resQ (a0a CC (T0 Q22) 5000 a5a a22 []) v22 = true:=by kernel_rfl
theorem l23 : resQ (a0a CC (T0 Q23) 5000 a1j a23 []) v23 = true:=by kernel_rfl
theorem l24 : resQ (a0a CC (T0 Q24) 5000 a0c a24 []) v24 = true:=by kernel_rfl
theorem l25 : resQ (a0a CC (T0 Q25) 5000 a2z a25 []) v25 = true:=by kernel_rfl
theorem l26 : resQ (a0a CC (T0 Q26) 5000 a2d a26 []) v26 = true:=by kernel_rfl
theorem l27 : resQ (a0a CC (T0 Q27) 5000 b7z a27 []) v27 = true:=by kernel_rfl
theorem l28 : resQ (a0a CC (T0 Q28) 5000 a1y a28 []) v28 = true:=by kernel_rfl
theorem l29 : resQ (a0a CC (T0 Q29) 5000 b1l a29 []) v29 = true:=by kernel_rfl
theorem l30 : resQ (a0a CC (T0 Q30) 5000 a0c a30 []) v30 = true:=by kernel_rfl
theorem l31 : resQ (a0a CC (T0 Q31) 5000 a0f a31 []) v31 = true:=by kernel_rfl
theorem l32 : resQ (a0a CC (T0 Q32) 5000 a1j a32 []) v32 = true:=by kernel_rfl
theorem l33 : resQ (a0a CC (T0 Q33) 5000 a0c a33 []) v33 = true:=by kernel_rfl
theorem l34 : resQ (a0a CC (T0 Q34) 5000 a0f a34 []) v34 = true:=by kernel_rfl
theorem l35 : resQ (a0a CC (T0 Q35) 5000 a2d a35 []) v35 = true:=by kernel_rfl
theorem l36 : resQ (a0a CC (T0 Q36) 5000 a3n a36 []) v36 = true:=by kernel_rfl
theorem l37 : resQ (a0a CC (T0 Q37) 5000 a2v a37 []) v37 = true:=by kernel_rfl
theorem l38 : resQ (a0a CC (T0 Q38) 5000 a0l a38 []) v38 = true:=by kernel_rfl
end Go.Proofs.YtomedkaiefgbeaaGreatDoor
