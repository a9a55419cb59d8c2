/- Answers of the evaluator, by the kernel. No conditions. -/
import Derived.Test.YtomedkaiefgbeaaGreatDoorTM
import Derived.KernelRfl
set_option linter.unusedVariables false
set_option linter.unusedSimpArgs false
namespace Go.Proofs.YtomedkaiefgbeaaGreatDoor
open Go.Ev
set_option maxRecDepth 1000000
theorem l175 : resQ (a0a CC (T0 Q175) 5000 a0z a175 []) v175 = true:=by kernel_rfl
theorem l176 : resQ (a0a CC (T0 Q176) 5000 a1b a176 []) v176 = true:=by kernel_rfl
theorem l177 : resQ (a0a CC (T0 Q177) 5000 a3s a177 []) v177 = true:=by kernel_rfl
theorem l178 : resQ (a0a CC (T0 Q178) 5000 a0q a178 []) v178 = true:=by kernel_rfl
theorem l179 : resQ (a0a CC (T0 Q179) 5000 a0h a179 []) v179 = true:=by kernel_rfl
theorem l180 : resQ (a0a CC (T0 Q180) 5000 a0h a180 []) v180 = true:=by kernel_rfl
theorem l181 : resQ (a0a CC (T0 Q181) 5000 a0z a181 []) v181 = true:=by kernel_rfl
theorem l182 : resQ (a0a CC (T0 Q182) 5000 a2n a182 []) v182 = true:=by kernel_rfl
theorem l183 : resQ (a0a CC (T0 Q183) 5000 a4s a183 []) v183 = true:=by kernel_rfl
theorem l184 : resQ (a0a CC (T0 Q184) 5000 a3y a184 []) v184 = true:=by kernel_rfl
theorem l185 : resQ (a0a CC (T0 Q185) 5000 a0e a185 []) v185 = true:=by kernel_rfl
theorem l186 : resQ (a0a CC (T0 Q186) 5000 a0h a186 []) v186 = true:=by kernel_rfl
theorem l187 : resQ (a0a CC (T0 Q187) 5000 a1t a187 []) v187 = true:=by kernel_rfl
theorem l188 : resQ (a0a CC (T0 Q188) 5000 a0c a188 []) v188 = true:=by kernel_rfl
theorem l189 : resQ (a0a CC (T0 Q189) 5000 a0h a189 []) v189 = true:=by kernel_rfl
theorem l190 : resQ (a0a CC (T0 Q190) 5000 a1y a190 []) v190 = true:=by kernel_rfl
theorem l191 : resQ (a0a CC (T0 Q191) 5000 a0c a191 []) v191 = true:=by kernel_rfl
theorem l192 : resQ (a0a CC (T0 Q192) 5000 a0c a192 []) v192 = true:=by kernel_rfl
theorem l193 : resQ (a0a CC (T0 Q193) 5000 a0f a193 []) v193 = true:=by kernel_rfl
theorem l194 : resQ (a0a CC (T0 Q194) 5000 a1j a194 []) v194 = true:=by kernel_rfl
theorem l195 : resQ (a0a CC (T0 Q195) 5000 a0c a195 []) v195 = true:=by kernel_rfl
end Go.Proofs.YtomedkaiefgbeaaGreatDoor
