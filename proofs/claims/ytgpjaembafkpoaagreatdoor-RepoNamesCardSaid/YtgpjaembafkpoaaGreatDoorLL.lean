/- Answers of the evaluator, by the kernel. No conditions. -/
import Derived.Test.YtgpjaembafkpoaaGreatDoorL0
import Derived.Test.YtgpjaembafkpoaaGreatDoorL1
import Derived.Test.YtgpjaembafkpoaaGreatDoorL2
import Derived.Test.YtgpjaembafkpoaaGreatDoorL3
import Derived.Test.YtgpjaembafkpoaaGreatDoorL4
import Derived.Test.YtgpjaembafkpoaaGreatDoorL5
import Derived.Test.YtgpjaembafkpoaaGreatDoorL6
import Derived.Test.YtgpjaembafkpoaaGreatDoorL7
import Derived.Test.YtgpjaembafkpoaaGreatDoorL8
import Derived.Test.YtgpjaembafkpoaaGreatDoorL9
import Derived.Test.YtgpjaembafkpoaaGreatDoorL10
set_option linter.unusedVariables false
set_option linter.unusedSimpArgs false
namespace Go.Proofs.YtgpjaembafkpoaaGreatDoor
open Go.Ev
set_option maxRecDepth 1000000
theorem q0 : MOK CC Q0 := M0_ok CC
theorem q1 : MOK CC Q1 := updM_ok q0 (known_of (callG_sound mixedA (T0_tr q0) 5000) glT_closed (by kernel_rfl) l0)
theorem q2 : MOK CC Q2 := updM_ok q1 (known_of (callG_sound mixedA (T0_tr q1) 5000) glT_closed (by kernel_rfl) l1)
theorem q3 : MOK CC Q3 := updM_ok q2 (known_of (callG_sound mixedA (T0_tr q2) 5000) glT_closed (by kernel_rfl) l2)
theorem q4 : MOK CC Q4 := updM_ok q3 (known_of (callG_sound mixedA (T0_tr q3) 5000) glT_closed (by kernel_rfl) l3)
theorem q5 : MOK CC Q5 := updM_ok q4 (known_of (callG_sound mixedA (T0_tr q4) 5000) glT_closed (by kernel_rfl) l4)
theorem q6 : MOK CC Q6 := updM_ok q5 (known_of (callG_sound mixedA (T0_tr q5) 5000) glT_closed (by kernel_rfl) l5)
theorem q7 : MOK CC Q7 := updM_ok q6 (known_of (callG_sound mixedA (T0_tr q6) 5000) glT_closed (by kernel_rfl) l6)
theorem q8 : MOK CC Q8 := updM_ok q7 (known_of (callG_sound mixedA (T0_tr q7) 5000) glT_closed (by kernel_rfl) l7)
theorem q9 : MOK CC Q9 := updM_ok q8 (known_of (callG_sound mixedA (T0_tr q8) 5000) glT_closed (by kernel_rfl) l8)
theorem q10 : MOK CC Q10 := updM_ok q9 (known_of (callG_sound mixedA (T0_tr q9) 5000) glT_closed (by kernel_rfl) l9)
theorem q11 : MOK CC Q11 := updM_ok q10 (known_of (callG_sound mixedA (T0_tr q10) 5000) glT_closed (by kernel_rfl) l10)
theorem q12 : MOK CC Q12 := updM_ok q11 (known_of (callG_sound mixedA (T0_tr q11) 5000) glT_closed (by kernel_rfl) l11)
theorem q13 : MOK CC Q13 := updM_ok q12 (known_of (callG_sound mixedA (T0_tr q12) 5000) glT_closed (by kernel_rfl) l12)
theorem q14 : MOK CC Q14 := updM_ok q13 (known_of (callG_sound mixedA (T0_tr q13) 5000) glT_closed (by kernel_rfl) l13)
theorem q15 : MOK CC Q15 := updM_ok q14 (known_of (callG_sound mixedA (T0_tr q14) 5000) glT_closed (by kernel_rfl) l14)
theorem q16 : MOK CC Q16 := updM_ok q15 (known_of (callG_sound mixedA (T0_tr q15) 5000) glT_closed (by kernel_rfl) l15)
theorem q17 : MOK CC Q17 := updM_ok q16 (known_of (callG_sound mixedA (T0_tr q16) 5000) glT_closed (by kernel_rfl) l16)
theorem q18 : MOK CC Q18 := updM_ok q17 (known_of (callG_sound mixedA (T0_tr q17) 5000) glT_closed (by kernel_rfl) l17)
theorem q19 : MOK CC Q19 := updM_ok q18 (known_of (callG_sound mixedA (T0_tr q18) 5000) glT_closed (by kernel_rfl) l18)
theorem q20 : MOK CC Q20 := updM_ok q19 (known_of (callG_sound mixedA (T0_tr q19) 5000) glT_closed (by kernel_rfl) l19)
theorem q21 : MOK CC Q21 := updM_ok q20 (known_of (callG_sound mixedA (T0_tr q20) 5000) glT_closed (by kernel_rfl) l20)
theorem q22 : MOK CC Q22 := updM_ok q21 (known_of (callG_sound mixedA (T0_tr q21) 5000) glT_closed (by kernel_rfl) l21)
theorem q23 : MOK CC Q23 := updM_ok q22 (known_of (callG_sound mixedA (T0_tr q22) 5000) glT_closed (by kernel_rfl) l22)
theorem q24 : MOK CC Q24 := updM_ok q23 (known_of (callG_sound mixedA (T0_tr q23) 5000) glT_closed (by kernel_rfl) l23)
theorem q25 : MOK CC Q25 := updM_ok q24 (known_of (callG_sound mixedA (T0_tr q24) 5000) glT_closed (by kernel_rfl) l24)
theorem q26 : MOK CC Q26 := updM_ok q25 (known_of (callG_sound mixedA (T0_tr q25) 5000) glT_closed (by kernel_rfl) l25)
theorem q27 : MOK CC Q27 := updM_ok q26 (known_of (callG_sound mixedA (T0_tr q26) 5000) glT_closed (by kernel_rfl) l26)
theorem q28 : MOK CC Q28 := updM_ok q27 (known_of (callG_sound mixedA (T0_tr q27) 5000) glT_closed (by kernel_rfl) l27)
theorem q29 : MOK CC Q29 := updM_ok q28 (known_of (callG_sound mixedA (T0_tr q28) 5000) glT_closed (by kernel_rfl) l28)
theorem q30 : MOK CC Q30 := updM_ok q29 (known_of (callG_sound mixedA (T0_tr q29) 5000) glT_closed (by kernel_rfl) l29)
theorem q31 : MOK CC Q31 := updM_ok q30 (known_of (callG_sound mixedA (T0_tr q30) 5000) glT_closed (by kernel_rfl) l30)
theorem q32 : MOK CC Q32 := updM_ok q31 (known_of (callG_sound mixedA (T0_tr q31) 5000) glT_closed (by kernel_rfl) l31)
theorem q33 : MOK CC Q33 := updM_ok q32 (known_of (callG_sound mixedA (T0_tr q32) 5000) glT_closed (by kernel_rfl) l32)
theorem q34 : MOK CC Q34 := updM_ok q33 (known_of (callG_sound mixedA (T0_tr q33) 5000) glT_closed (by kernel_rfl) l33)
theorem q35 : MOK CC Q35 := updM_ok q34 (known_of (callG_sound mixedA (T0_tr q34) 5000) glT_closed (by kernel_rfl) l34)
theorem q36 : MOK CC Q36 := updM_ok q35 (known_of (callG_sound mixedA (T0_tr q35) 5000) glT_closed (by kernel_rfl) l35)
theorem q37 : MOK CC Q37 := updM_ok q36 (known_of (callG_sound mixedA (T0_tr q36) 5000) glT_closed (by kernel_rfl) l36)
theorem q38 : MOK CC Q38 := updM_ok q37 (known_of (callG_sound mixedA (T0_tr q37) 5000) glT_closed (by kernel_rfl) l37)
theorem q39 : MOK CC Q39 := updM_ok q38 (known_of (callG_sound mixedA (T0_tr q38) 5000) glT_closed (by kernel_rfl) l38)
theorem q40 : MOK CC Q40 := updM_ok q39 (known_of (callG_sound mixedA (T0_tr q39) 5000) glT_closed (by kernel_rfl) l39)
theorem q41 : MOK CC Q41 := updM_ok q40 (known_of (callG_sound mixedA (T0_tr q40) 5000) glT_closed (by kernel_rfl) l40)
theorem q42 : MOK CC Q42 := updM_ok q41 (known_of (callG_sound mixedA (T0_tr q41) 5000) glT_closed (by kernel_rfl) l41)
theorem q43 : MOK CC Q43 := updM_ok q42 (known_of (callG_sound mixedA (T0_tr q42) 5000) glT_closed (by kernel_rfl) l42)
theorem q44 : MOK CC Q44 := updM_ok q43 (known_of (callG_sound mixedA (T0_tr q43) 5000) glT_closed (by kernel_rfl) l43)
end Go.Proofs.YtgpjaembafkpoaaGreatDoor

namespace Go.Proofs.YtgpjaembafkpoaaGreatDoor
open Go.Ev
set_option maxRecDepth 1000000
theorem lfin : resQ (callG CC (T0 Q44) 5000 f_legatelaw28_RepoNames [] []) (.bool true) = true := by kernel_rfl
theorem fin : Known CC f_legatelaw28_RepoNames [] (.bool true) := known_of (callG_sound mixedA (T0_tr q44) 5000) glT_closed (by kernel_rfl) lfin
end Go.Proofs.YtgpjaembafkpoaaGreatDoor

