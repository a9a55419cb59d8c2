/- Answers of the evaluator, by the kernel. No conditions. -/
import Derived.Test.YtomedkaiefgbeaaGreatDoorTM
import Derived.KernelRfl
set_option linter.unusedVariables false
set_option linter.unusedSimpArgs false
namespace Go.Proofs.YtomedkaiefgbeaaGreatDoor
open Go.Ev
set_option maxRecDepth 1000000
theorem l254 : resQ (a0a CC (T0 Q254) 5000 a0q a254 []) v254 = true:=by kernel_rfl
theorem l255 : resQ (a0a CC (T0 Q255) 5000 a0h a255 []) v255 = true:=by kernel_rfl
theorem l256 : resQ (a0a CC (T0 Q256) 5000 a1e a256 []) v256 = true:=by kernel_rfl
theorem l257 : resQ (a0a CC (T0 Q257) 5000 a0z a257 []) v257 = true:=by kernel_rfl
theorem l258 : resQ (a0a CC (T0 Q258) 5000 a1b a258 []) v258 = true:=by kernel_rfl
theorem l259 : resQ (a0a CC (T0 Q259) 5000 a3s a259 []) v259 = true:=by kernel_rfl
theorem l260 : resQ (a0a CC (T0 Q260) 5000 a0e a260 []) v260 = true:=by kernel_rfl
theorem l261 : resQ (a0a CC (T0 Q261) 5000 a1y a261 []) v261 = true:=by kernel_rfl
theorem l262 : resQ (a0a CC (T0 Q262) 5000 b1l a262 []) v262 = true:=by kernel_rfl
theorem l263 : resQ (a0a CC (T0 Q263) 5000 a0c a263 []) v263 = true:=by kernel_rfl
theorem l264 : resQ (a0a CC (T0 Q264) 5000 a0f a264 []) v264 = true:=by kernel_rfl
theorem l265 : resQ (a0a CC (T0 Q265) 5000 a1j a265 []) v265 = true:=by kernel_rfl
theorem l266 : resQ (a0a CC (T0 Q266) 5000 a0c a266 []) v266 = true:=by kernel_rfl
theorem l267 : resQ (a0a CC (T0 Q267) 5000 a0f a267 []) v267 = true:=by kernel_rfl
theorem l268 : resQ (a0a CC (T0 Q268) 5000 a2d a268 []) v268 = true:=by kernel_rfl
theorem l269 : resQ (a0a CC (T0 Q269) 5000 a3n a269 []) v269 = true:=by kernel_rfl
theorem l270 : resQ (a0a CC (T0 Q270) 5000 a0l a270 []) v270 = true:=by kernel_rfl
theorem l271 : resQ (a0a CC (T0 Q271) 5000 a1p a271 []) v271 = true:=by kernel_rfl
theorem l272 : resQ (a0a CC (T0 Q272) 5000 a0c a272 []) v272 = true:=by kernel_rfl
theorem l273 : resQ (a0a CC (T0 Q273) 5000 a0c a273 []) v273 = true:=by kernel_rfl
theorem l274 : resQ (a0a CC (T0 Q274) 5000 a0f a274 []) v274 = true:=by kernel_rfl
theorem l275 : resQ (a0a CC (T0 Q275) 5000 a1j a275 []) v275 = true:=by kernel_rfl
theorem l276 : resQ (a0a CC (T0 Q276) 5000 a0c a276 []) v276 = true:=by kernel_rfl
theorem l277 : resQ (a0a CC (T0 Q277) 5000 a0f a277 []) v277 = true:=by kernel_rfl
theorem l278 : resQ (a0a CC (T0 Q278) 5000 a0d a278 []) v278 = true:=by kernel_rfl
end Go.Proofs.YtomedkaiefgbeaaGreatDoor
