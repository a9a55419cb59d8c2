/- Answers of the evaluator, by the kernel. No conditions. -/
import Derived.Test.YtomedkaiefgbeaaGreatDoorTM
import Derived.KernelRfl
set_option linter.unusedVariables false
set_option linter.unusedSimpArgs false
namespace Go.Proofs.YtomedkaiefgbeaaGreatDoor
open Go.Ev
set_option maxRecDepth 1000000
theorem l149 : resQ (a0a CC (T0 Q149) 5000 a0h a149 []) v149 = true:=by kernel_rfl
theorem l150 : resQ (a0a CC (T0 Q150) 5000 a1t a150 []) v150 = true:=by kernel_rfl
theorem l151 : resQ (a0a CC (T0 Q151) 5000 a0c a151 []) v151 = true:=by kernel_rfl
theorem l152 : resQ (a0a CC (T0 Q152) 5000 a0h a152 []) v152 = true:=by kernel_rfl
theorem l153 : resQ (a0a CC (T0 Q153) 5000 a1y a153 []) v153 = true:=by kernel_rfl
theorem l154 : resQ (a0a CC (T0 Q154) 5000 a0c a154 []) v154 = true:=by kernel_rfl
theorem l155 : resQ (a0a CC (T0 Q155) 5000 a0c a155 []) v155 = true:=by kernel_rfl
theorem l156 : resQ (a0a CC (T0 Q156) 5000 a0f a156 []) v156 = true:=by kernel_rfl
theorem l157 : resQ (a0a CC (T0 Q157) 5000 a1j a157 []) v157 = true:=by kernel_rfl
theorem l158 : resQ (a0a CC (T0 Q158) 5000 a0c a158 []) v158 = true:=by kernel_rfl
theorem l159 : resQ (a0a CC (T0 Q159) 5000 a0f a159 []) v159 = true:=by kernel_rfl
theorem l160 : resQ (a0a CC (T0 Q160) 5000 a2d a160 []) v160 = true:=by kernel_rfl
theorem l161 : resQ (a0a CC (T0 Q161) 5000 a3n a161 []) v161 = true:=by kernel_rfl
theorem l162 : resQ (a0a CC (T0 Q162) 5000 a2v a162 []) v162 = true:=by kernel_rfl
theorem l163 : resQ (a0a CC (T0 Q163) 5000 a0l a163 []) v163 = true:=by kernel_rfl
theorem l164 : resQ (a0a CC (T0 Q164) 5000 a1p a164 []) v164 = true:=by kernel_rfl
theorem l165 : resQ (a0a CC (T0 Q165) 5000 a0c a165 []) v165 = true:=by kernel_rfl
theorem l166 : resQ (a0a CC (T0 Q166) 5000 a0c a166 []) v166 = true:=by kernel_rfl
theorem l167 : resQ (a0a CC (T0 Q167) 5000 a0f a167 []) v167 = true:=by kernel_rfl
theorem l168 : resQ (a0a CC (T0 Q168) 5000 a1j a168 []) v168 = true:=by kernel_rfl
theorem l169 : resQ (a0a CC (T0 Q169) 5000 a0c a169 []) v169 = true:=by kernel_rfl
theorem l170 : resQ (a0a CC (T0 Q170) 5000 a0f a170 []) v170 = true:=by kernel_rfl
theorem l171 : resQ (a0a CC (T0 Q171) 5000 a0d a171 []) v171 = true:=by kernel_rfl
theorem l172 : resQ (a0a CC (T0 Q172) 5000 a0q a172 []) v172 = true:=by kernel_rfl
theorem l173 : resQ (a0a CC (T0 Q173) 5000 a0h a173 []) v173 = true:=by kernel_rfl
theorem l174 : resQ (a0a CC (T0 Q174) 5000 a1e a174 []) v174 = true:=by kernel_rfl
end Go.Proofs.YtomedkaiefgbeaaGreatDoor
