/- Answers of the evaluator, by the kernel. No conditions. -/
import Derived.Test.YtomedkaiefgbeaaGreatDoorTM
import Derived.KernelRfl
set_option linter.unusedVariables false
set_option linter.unusedSimpArgs false
namespace Go.Proofs.YtomedkaiefgbeaaGreatDoor
open Go.Ev
set_option maxRecDepth 1000000
theorem l353 : resQ (a0a CC (T0 Q353) 5000 a0h a353 []) v353 = true:=by kernel_rfl
theorem l354 : resQ (a0a CC (T0 Q354) 5000 a0h a354 []) v354 = true:=by kernel_rfl
theorem l355 : resQ (a0a CC (T0 Q355) 5000 a0z a355 []) v355 = true:=by kernel_rfl
theorem l356 : resQ (a0a CC (T0 Q356) 5000 a2n a356 []) v356 = true:=by kernel_rfl
theorem l357 : resQ (a0a CC (T0 Q357) 5000 a4s a357 []) v357 = true:=by kernel_rfl
theorem l358 : resQ (a0a CC (T0 Q358) 5000 a3y a358 []) v358 = true:=by kernel_rfl
theorem l359 : resQ (a0a CC (T0 Q359) 5000 a0e a359 []) v359 = true:=by kernel_rfl
theorem l360 : resQ (a0a CC (T0 Q360) 5000 a0h a360 []) v360 = true:=by kernel_rfl
theorem l361 : resQ (a0a CC (T0 Q361) 5000 a1t a361 []) v361 = true:=by kernel_rfl
theorem l362 : resQ (a0a CC (T0 Q362) 5000 a0c a362 []) v362 = true:=by kernel_rfl
theorem l363 : resQ (a0a CC (T0 Q363) 5000 a0h a363 []) v363 = true:=by kernel_rfl
theorem l364 : resQ (a0a CC (T0 Q364) 5000 a1y a364 []) v364 = true:=by kernel_rfl
theorem l365 : resQ (a0a CC (T0 Q365) 5000 a0c a365 []) v365 = true:=by kernel_rfl
theorem l366 : resQ (a0a CC (T0 Q366) 5000 a0c a366 []) v366 = true:=by kernel_rfl
theorem l367 : resQ (a0a CC (T0 Q367) 5000 a0f a367 []) v367 = true:=by kernel_rfl
theorem l368 : resQ (a0a CC (T0 Q368) 5000 a1j a368 []) v368 = true:=by kernel_rfl
theorem l369 : resQ (a0a CC (T0 Q369) 5000 a0c a369 []) v369 = true:=by kernel_rfl
theorem l370 : resQ (a0a CC (T0 Q370) 5000 a0f a370 []) v370 = true:=by kernel_rfl
theorem l371 : resQ (a0a CC (T0 Q371) 5000 a2d a371 []) v371 = true:=by kernel_rfl
theorem l372 : resQ (a0a CC (T0 Q372) 5000 a1t a372 []) v372 = true:=by kernel_rfl
theorem l373 : resQ (a0a CC (T0 Q373) 5000 a0c a373 []) v373 = true:=by kernel_rfl
theorem l374 : resQ (a0a CC (T0 Q374) 5000 a0l a374 []) v374 = true:=by kernel_rfl
theorem l375 : resQ (a0a CC (T0 Q375) 5000 a0c a375 []) v375 = true:=by kernel_rfl
theorem l376 : resQ (a0a CC (T0 Q376) 5000 b1l a376 []) v376 = true:=by kernel_rfl
theorem l377 : resQ (a0a CC (T0 Q377) 5000 a0c a377 []) v377 = true:=by kernel_rfl
theorem l378 : resQ (a0a CC (T0 Q378) 5000 a0f a378 []) v378 = true:=by kernel_rfl
theorem l379 : resQ (a0a CC (T0 Q379) 5000 a1j a379 []) v379 = true:=by kernel_rfl
theorem l380 : resQ (a0a CC (T0 Q380) 5000 a0c a380 []) v380 = true:=by kernel_rfl
theorem l381 : resQ (a0a CC (T0 Q381) 5000 a0f a381 []) v381 = true:=by kernel_rfl
theorem l382 : resQ (a0a CC (T0 Q382) 5000 a2d a382 []) v382 = true:=by kernel_rfl
theorem l383 : resQ (a0a CC (T0 Q383) 5000 a3n a383 []) v383 = true:=by kernel_rfl
end Go.Proofs.YtomedkaiefgbeaaGreatDoor
