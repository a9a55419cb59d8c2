/- The row holds. No conditions. -/
import Derived.Test.YtdakkfjmclaciaaGreatDoorPA
import Derived.Test.YtdakkfjmclaciaaGreatDoorPB
import Derived.Test.YtdakkfjmclaciaaGreatDoorRows
import Derived.Test.YtdakkfjmclaciaaGreatDoorCards
import Derived.Test.YtdakkfjmclaciaaGreatDoorTie
import Derived.WalkKit
import Derived.ProofKit
import Derived.OpenShut
import Derived.ShutString
import Derived.ChangeOld
import Derived.Below
import Derived.LaidMore
import Derived.Stop.Joined
import Derived.SevenTiedAt
namespace Go.Proofs.YtdakkfjmclaciaaGreatDoor.law
open Go.ChangeShapes Go.WideShapes Go.ChangeAt Go.RowKit Go.Ev
set_option linter.unusedVariables false
set_option maxRecDepth 1000000
set_option maxHeartbeats 40000000
theorem row_holds : Rows.scriptShowsRow.holds Tryz.pinned (OpenSpec.ofChange Rows.scriptShowsSpec):=
 OpenClaim.holds_of_wide 3 Tryz.f3 rfl rfl rfl rfl rfl rfl rfl ⟨rfl,rfl,rfl,rfl,rfl⟩ rfl rfl rfl rfl rfl (by as_aux_lemma=>kernel_rfl) Tryz.func3 closed
  (of_decide_eq_true (by as_aux_lemma=>kernel_rfl)) (by unfold Func.isWrapper; first | (rw [if_pos (by decide +kernel)]; kernel_rfl) | (rw [if_neg (by decide +kernel)]; exact ⟨rfl,rfl⟩))
  (fun os started H enc _=>lifted os started H enc)
end Go.Proofs.YtdakkfjmclaciaaGreatDoor.law
